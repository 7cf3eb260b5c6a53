/- 15 -/
import Derived.Test.YtmmghffoakhheaaGreatDoorRe14
set_option linter.unusedSimpArgs false
set_option linter.unusedVariables false
namespace Go.Proofs.YtmmghffoakhheaaGreatDoor
open _root_.Go.Proofs.Tryz _root_.Go.Proofs.YtmmghffoakhheaaGreatDoor.Tryz
open Go Go.Sy Go.Pl Go.Proofs
set_option maxRecDepth 100000
set_option maxHeartbeats 4000000
def jJ (fv:Value)(e:Ed)(A:List Cl)(code:Int)(B:List Cl)(img:Int→List Tm)(bk:Bool):Prop :=
 ∀ (E:World) (g:PH) (s:Own) (bx mb ms:Nat) (u v:Value) (rs:List Rc),ak g u A→az j7 A rs→EdR g v e →
  cX Tryz.prog E fv [pp bx 0,v] g (edP bx u mb ms false::mp mb (rs.map am)::mp ms []::(fI A rs++s)) (fun r g' s'=>Le g g'∧r=vi code∧(if code=0 then ∃ rs' ts,az (ay g') B rs'∧A4 ts∧(ts.map Prod.fst).Nodup∧(∀ k,sw ts k=img k)∧s'=edP bx u mb ms bk::mp mb (rs'.map am)::mp ms (gD ts)::(db ts++s) else ∃ h,s'=h++s))
def DU (k:Int):List Tm:=[(k,1)]
theorem nq.gen {fv:Value}{e:Ed}{A:List Cl}{code:Int}{B:List Cl}{bk:Bool}(h:nq fv e A code B bk):jJ fv e A code B DU bk:=fun E g s bx mb ms u v rs hu hO hv=>by
 obtain ⟨n,cap,q1,q2,q3⟩:=h E g s bx mb ms u v rs hu hO hv;refine⟨n,cap,q1,q2,q3.mono ?_⟩;rintro r g' s' ⟨h1,h2,h3⟩;refine⟨h1,h2,?_⟩;by_cases h0:code=0
 ·rw[zg1 h0] at h3 ⊢;obtain ⟨rs',h4,rfl⟩:=h3;exact⟨rs',[],h4,fun t ht=>by simp at ht,List.nodup_nil,fun k=>I,I⟩
 ·rw[zf9 h0] at h3 ⊢;exact h3
def jz (g:PH)(code:Int)(D:List Cl)(ims:List (Int×List Tm))(bk:Bool)(r:Value)(g':PH):Prop:=∃ u p n c b,r = .tuple #[.agg #[u],.agg #[.slice p n c,vb b],vi code]∧gw (mns g' g) u D∧(code=0→b=bk∧Ims g' (.slice p n c) ims)∧(code≠0→b=false∧Ims g' (.slice p n c) [])
theorem jz.old {g:PH}{code:Int}{D:List Cl}{ims:List (Int×List Tm)}{bk:Bool}{r:Value}{g':PH}(h:jz g code D ims bk r g'):eV code D ims bk r g':=by
 obtain ⟨u,p,n,c,b,h1,h2,h3⟩:=h;exact⟨u,p,n,c,b,h1,h2.cells<|jo _ _,h3⟩
theorem gw.nil (g:PH):gw g (.slice none 0 0) []:=⟨[],RK.nil _ _ g,trivial⟩
theorem qK (E:World)(g:PH)(s:Own)(v ev:Value)(l:List Cl)(e:Ed)(hv:ak g v l)(hf:a8 l)(he:EdR g ev e)(ims:List (Int×List Tm))(bk:Bool)(hbad:dF ku e.kind=none∨(aq l).2≠0) :
  Ctr Tryz.prog E 43 #[.agg #[v],ev] g s (fun r g' s'=>s=s'∧Le g g'∧jz g 1 [] ims bk r g'):=by
 obtain ⟨z,hz⟩:=Tryz.mtyKinds;obtain ⟨sv,pv,rfl,hsv,hpv⟩:=he;obtain ⟨sp,sc,rfl⟩:=za3 hsv;obtain ⟨pq,pc,rfl⟩:=za3 hpv;obtain ⟨p,c,rfl⟩:=hv.form;refine zb1 (args:=[.agg #[.slice p l.length c],.agg #[vi e.kind,vi e.cell,vi e.dim,vi e.new,vi e.other,.slice sp e.sides.length sc,.slice pq e.pairs.length pc]]) func43 I ntmps43 (bE I) ?_;cases hg:dF ku e.kind with
 | none =>
  refine rZ (bW (bO I) fun b2=>?_);refine bW (bO I) fun b3=>bW (aL zl6) fun b4=>bW (aL zl1) fun b5=>aT I<|sQ<|dW [] [(1,2),(2,1),(0,0),(3,0),(4,2),(5,2),(6,2),(7,2),(8,2)] ze3 kR<|pU I (fA aJ I zT3 I)<|pK I (qL iT3 I<|cO 2 I I)<|SP.o I (SO.call call72 I<|jW E g _) dC (.inr iR) ?_;rintro _ g1 _ ⟨rfl,hle1,bq,rfl,hk⟩;refine oQ I (SQ.eq (v':=.tuple #[z,vb false]) (SQ.lookupOk hz I I<|bo.known hk) (by rw[hg]; rfl)) dC (.inr ⟨by assumption,(by exact .refl _)⟩) ?_;refine yM I<|pU I (xT I I)<|pU I (xT I I)<|pU I (aS I)<|pU I (aS I)<|pN<|tN<|sQ<|sW I<|lU (SU.not I)<|lM I<|yA I<|yA I<|yA I<|yP I<|tZ<|za1 I<|rZ<|lU (za2 I buildE29)<|lU (za2 I buildZ89)<|oZ (sK 1 ag I I I I I sB) ?_;refine oZ (sK 0 bD I I I I I sB) ?_;refine aT I<|rE<|tR ?_;exact ST.retCCT 1 0 s (.inl I) results43 I I I ar ag fw bD I I I I uR ⟨I,hle1,_,_,_,_,_,I,gw.nil _,(fun h=>by cases h),fun _=>⟨I,Ims.nil _⟩⟩
 | some fv =>
  have hc:decide ((aq l).2=0)=false:=zf7 (by
   rcases hbad with h | h
   ·rw[hg] at h; cases h
   ·exact h)
  refine rZ (bW (bO I) fun b2=>?_);refine bW (bO I) fun b3=>bW (aL zl6) fun b4=>bW (aL zl1) fun b5=>aT I<|sQ<|dW [] [(1,2),(2,1),(0,0),(3,0),(4,2),(5,2),(6,2),(7,2),(8,2)] ze3 kR<|pU I (fA aJ I zT3 I)<|pK I (qL iT3 I<|cO 2 I I)<|SP.o I (SO.call call72 I<|jW E g _) dC (.inr iR) ?_;rintro _ g1 _ ⟨rfl,hle1,bq,rfl,hk⟩;refine oQ I (SQ.eq (v':=.tuple #[fv,vb true]) (SQ.lookupOk hz I I<|bo.known hk) (by rw[hg]; rfl)) dC (.inr ⟨by assumption,(by exact .refl _)⟩) ?_;refine yM I<|pU I (xT I I)<|pU I (xT I I)<|pU I (aS I)<|pU I (aS I)<|pN<|tN<|sQ<|sW I<|lU (SU.not I)<|lM I<|SL.gq (gT I I I dC) (qV 3 ar ag I I I) dC<|ze1 (gT I I I dC) (SO.call call73 I<|nK E g1 _ _ l (hv.mono hle1) hf false hc) dC ?_;rintro _ _ _ ⟨rfl,rfl,rfl⟩;refine lY I I I (SU.not I)<|yF I<|tZ<|za1 I<|rZ<|lU (za2 I buildE29)<|lU (za2 I buildZ89)<|oZ (sK 1 ag I I I I I sB) ?_;refine oZ (sK 0 bD I I I I I sB) ?_;refine aT I<|rE<|tR ?_;exact ST.retCCT 1 0 s (.inl I) results43 I I I ar ag fw bD I I I I uR ⟨I,hle1,_,_,_,_,_,I,gw.nil _,(fun h=>by cases h),fun _=>⟨I,Ims.nil _⟩⟩
theorem ye (E:World)(g:PH)(s:Own)(v ev:Value)(l:List Cl)(e:Ed)(hv:ak g v l)(hf:a8 l)(he:EdR g ev e)(hr:(aq l).2=0)(fv:Value)(code:Int)(B:List Cl)(bk:Bool)(hg:dF ku e.kind=some fv)(img:Int→List Tm)(hrun:jJ fv e (aa l) code B img bk)(hB:code=0→a8 B∧(B.map Cl.id).Nodup) :
  Ctr Tryz.prog E 43 #[.agg #[v],ev] g s (fun r g' s'=>s=s'∧Le g g'∧jz g (aH code B).1 (aH code B).2 ((if bk then aa B else aa l).map fun c=>(c.id,img c.id)) bk r g'):=by
 obtain ⟨z,hz⟩:=Tryz.mtyKinds;have he0:=he;obtain ⟨sv,pv,rfl,hsv,hpv⟩:=he;obtain ⟨sp,sc,rfl⟩:=za3 hsv;obtain ⟨pq,pc,rfl⟩:=za3 hpv;obtain ⟨p,c,rfl⟩:=hv.form;have hc:decide ((aq l).2=0)=true:=zf8 hr;have hnd:((aa l).map Cl.id).Nodup:=by
  rw[List.Nodup,zk5];exact (mq hr).asc.imp fun h=>by omega
 have hAf:=ba hf;refine zb1 (args:=[.agg #[.slice p l.length c],.agg #[vi e.kind,vi e.cell,vi e.dim,vi e.new,vi e.other,.slice sp e.sides.length sc,.slice pq e.pairs.length pc]]) func43 I ntmps43 (bE I)<|rZ (bW (bO I) fun b2=>?_);refine bW (bO I) fun b3=>bW (aL zl6) fun b4=>bW (aL zl1) fun b5=>aT I<|sQ<|dW [] [(1,2),(2,1),(0,0),(3,0),(4,2),(5,2),(6,2),(7,2),(8,2)] ze3 kR<|pU I (fA aJ I zT3 I)<|pK I (qL iT3 I<|cO 2 I I)<|SP.o I (SO.call call72 I<|jW E g _) dC (.inr iR) ?_;rintro _ g1 _ ⟨rfl,hle1,bq,rfl,hk⟩;refine oQ I (SQ.eq (v':=.tuple #[fv,vb true]) (SQ.lookupOk hz I I<|bo.known hk) (by rw[hg]; rfl)) dC (.inr ⟨by assumption,(by exact .refl _)⟩) ?_;refine yM I<|pU I (xT I I)<|pU I (xT I I)<|pU I (aS I)<|pU I (aS I)<|pN<|tN<|sQ<|sW I<|lU (SU.not I)<|lM I<|SL.gq (gT I I I dC) (qV 3 ar ag I I I) dC<|ze1 (gT I I I dC) (SO.call call73 I<|nK E g1 _ _ l (hv.mono hle1) hf true hc) dC ?_;rintro _ _ _ ⟨rfl,rfl,rfl⟩;refine lY I I I (SU.not I)<|yF I<|tZ<|cF I<|kP<|tN<|rZ<|lK (qV 3 ar ag I I I)<|lW (SO.call call74 I<|wv E g1 _ _ l (hv.mono hle1) hf hnd) ?_;rintro _ g2 _ ⟨hle2,bx,u,mb,ms,rs,rfl,hu,hO,rfl⟩;refine aT I<|sW I<|lM I<|lK (qV ((fI (aa l) rs).length+2+3) jB ft I (by exact (nH (fI (aa l) rs) _ 2).trans I) I) ?_;refine lW (SO.callV I I<|hrun E g2 _ bx mb ms u _ rs hu hO<|he0.mono<|hle1.trans hle2) ?_;rintro _ g3 _ ⟨hle3,rfl,hcase⟩;by_cases hc0:code=0
 ·obtain ⟨hBf,hBn⟩:=hB hc0;subst hc0;rw[zg1 rfl] at hcase;obtain ⟨rs',ts,hall,hts,htn,himg,rfl⟩:=hcase;refine SL.to (g':=g3) (s':=edP bx u mb ms bk::mp mb (rs'.map am)::mp ms (gD ts)::pt b5 (.cells #[.slice none 0 0,vb false] 89 (0,0))::pt b4 (.cells #[.slice none 0 0] 29 (0,0))::pt b3 (.cells #[vi e.kind,vi e.cell,vi e.dim,vi e.new,vi e.other,.slice sp e.sides.length sc,.slice pq e.pairs.length pc] 39 (0,0))::pt b2 (.cells #[.slice p l.length c] 29 (0,0))::(db ts++s)) (fun w hw=>hw.perm (((List.perm_append_comm_assoc (db ts) [pt b5<|.cells #[.slice none 0 0,vb false] 89 (0,0),pt b4<|.cells #[.slice none 0 0] 29 (0,0),pt b3<|.cells #[vi e.kind,vi e.cell,vi e.dim,vi e.new,vi e.other,.slice sp e.sides.length sc,.slice pq e.pairs.length pc] 39 (0,0),pt b2<|.cells #[.slice p l.length c] 29 (0,0)] s).cons _).cons _ |>.cons _)) ?_;have hcB:=ba hBf;have hout:aH 0 B=if (aq<|aa B).2≠0 then ((aq<|aa B).2,[]) else (0,aa B):=rfl
  rw[hout];refine aT I (rZ<|bW (aL zl6) fun b11=>?_);refine tZ (sQ<|sW I<|yE I<|tZ<|za1 I<|sQ<|cP (zk2 (l₁:=[pt b11<|.cells #[.slice none 0 0] 29 (0,0),edP bx u mb ms bk]))<|SC.freezeMap fun g4 hle4 hm4=>?_);refine rG<|lM I<|lW (SO.call call75 I<|pZ E g4 _ bx mb ms u bk B rs' (hall.mono fun _ _=>ay.mono hle4) hBn hBf hm4 1 I) ?_;rintro _ g5 _ ⟨rfl,hle5,u5,rfl,hn5⟩;have hu5:=hn5.cells<|jo _ _;obtain ⟨p5,c5,rfl⟩:=hu5.form;refine oZ (sK 0 ag I I I I I sB)<|tZ<|rG<|lK (qV 0 ar ag I I I)<|lW (SO.call call24 I<|jX E g5 _ _ (aa B) hu5 hcB) ?_;rintro _ _ _ ⟨rfl,rfl,rfl⟩;refine lM I<|yX I<|yX I<|aT I<|sQ<|sW I<|lU (nQ I I)<|tZ<|iP I (fun h2=>?_) (fun h2=>?_)
  ·have he2:(if (aq<|aa B).2≠0 then ((aq<|aa B).2,[]) else ((0:Int),aa B))=((aq<|aa B).2,[]):=zg1 h2;rw[he2];exact rZ<|lU (za2 I buildE29)<|lU (za2 I buildZ89)<|lM I<|oZ (sK 4 ag I I I I I sB)<|oZ (sK 3 bD I I I I I sB)<|aT I<|rE<|tR<|ST.retCCT 4 3 s (.inl I) results43 I I I ar ag fw bD I I I I (.cons _<|.cons _<|.cons _<|.cons _<|.cons _<|.cons _<|.cons _<|zi9 _ _) ⟨I,hle1.trans<|hle2.trans<|hle3.trans<|hle4.trans hle5,_,_,_,_,_,I,gw.nil _,fun h=>absurd h h2,fun _=>⟨I,Ims.nil _⟩⟩
  ·have he2:(if (aq<|aa B).2≠0 then ((aq<|aa B).2,[]) else ((0:Int),aa B))=(0,aa B):=zf9 h2;rw[he2];refine kP<|tN<|sQ<|SC.drawT 1 [4,5] [(0,1),(1,2),(2,1),(3,0),(4,0),(5,0),(6,2)] ze3 kR<|pK rfl (qV 0 ar ag rfl rfl rfl)<|yM rfl<|pK rfl (qV 0 ar ag rfl rfl rfl)<|SP.o rfl (SO.call call76 rfl<|zI E g5 [pt b11<|.cells #[.slice p5 (aa B).length c5] 29 (0,0),edP bx u mb ms bk,mp ms<|gD ts,pt b5<|.cells #[.slice none 0 0,vb false] 89 (0,0),pt b4<|.cells #[.slice none 0 0] 29 (0,0),pt b3<|.cells #[vi e.kind,vi e.cell,vi e.dim,vi e.new,vi e.other,.slice sp e.sides.length sc,.slice pq e.pairs.length pc] 39 (0,0),pt b2<|.cells #[.slice p l.length c] 29 (0,0)] s bx mb ms u _ bk (aa l) (aa B) ts hts htn (hu.mono<|hle3.trans<|hle4.trans hle5) hu5 hAf.1 hcB.1 1 2 rfl rfl) dC (.inr (by rintro _ g6 _ ⟨rfl,hle6,iv,rfl,him⟩; exact⟨by assumption,(by exact .cons_cons _<|List.nil_sublist _)⟩)) ?_;rintro _ g6 _ ⟨rfl,hle6,iv,rfl,him⟩;obtain ⟨p6,n6,c6,rfl⟩:=him.form;refine SP.on I (sK 4 ag I I I I I sB) (.inl dC) ?_;rintro _ _ _ ⟨rfl,rfl⟩;refine SP.on I (sK 3 bD I I I I I sB) (.inl dC) ?_;rintro _ _ _ ⟨rfl,rfl⟩;refine pU I (aS I)<|pN<|tN<|rE ?_;exact ST.retCCT 4 3 s (.inl I) results43 I I I ar ag fw bD I I I I uR ⟨I,hle1.trans<|hle2.trans<|hle3.trans<|hle4.trans<|hle5.trans hle6,_,_,_,_,_,I,(hn5.mono<|kN<|hle1.trans<|hle2.trans<|hle3.trans hle4).mono<|m9 hle6,fun _=>⟨I,by rw[show (fun c:Cl=>(c.id,img c.id))=fun c:Cl=>(c.id,sw ts c.id) from funext fun c=>by rw[himg]]; exact him⟩,fun h=>absurd I h⟩
 ·rw[zf9 hc0] at hcase;obtain ⟨h,rfl⟩:=hcase;have hout:aH code B=(code,[]):=zg1 hc0;rw[hout];refine SL.drop (zi9 _ _) (aT I<|rZ<|bW (aL zl6) fun b11=>?_);refine tZ<|sQ<|sW I<|yE I<|tZ<|iP I (fun h0=>?_) (fun h0=>?_)
  ·exact absurd h0 hc0
  ·refine kP<|tN<|sQ<|sW I<|lU (nQ I I)<|tZ<|iP I (fun h2=>?_) (fun h2=>?_)
   ·exact rZ<|lU (za2 I buildE29)<|lU (za2 I buildZ89)<|lM I<|oZ (sK 2 ag I I I I I sB)<|oZ (sK 1 bD I I I I I sB)<|aT I<|rE<|tR<|ST.retCCT 2 1 s (.inl I) results43 I I I ar ag fw bD I I I I uR ⟨I,hle1.trans<|hle2.trans hle3,_,_,_,_,_,I,gw.nil _,fun h=>absurd h hc0,fun _=>⟨I,Ims.nil _⟩⟩
   ·exact absurd hc0 h2
set_option maxHeartbeats 1000000
theorem ue {l m:List Side}(h:l.Perm m)(hl:l.Pairwise fun a b=>a.cell≤b.cell)(hm:m.Pairwise fun a b=>a.cell≤b.cell):l.map Side.cell=m.map Side.cell:=by
 refine List.Perm.eq_of_pairwise (le:=fun a b:Int=>a≤b) (fun a b _ _ h1 h2=>by omega) ?_ ?_<|h.map _
 ·rw[zk5]; exact hl
 ·rw[zk5]; exact hm
def CaC (a b:Cl):Prop:=a.id=b.id∧a.dim=b.dim∧a.sides.Perm b.sides∧a.sides.map Side.cell=b.sides.map Side.cell
theorem ur:∀ {L M:List Cl},az CaC L M→∀ k,(ao L k).map Cl.dim=(ao M k).map Cl.dim
 | [],[],_,_=>rfl
 | a::L,b::M,h,k=>by
  have ih:=ur h.2 k;have h1:=h.1.1;have h2:=h.1.2.1;unfold ao at ih ⊢;rw[zi5,zi5,h1];cases hd:decide (b.id=k) with
  | true=>simp[h2]
  | false=>simpa using ih
 | [],_::_,h,_=>h.elim
 | _::_,[],h,_=>h.elim
theorem Aq {L M:List Cl}(h:az CaC L M)(k:Int):(ao L k).isSome=(ao M k).isSome:=by
 have h1:=ze2 Option.isSome<|ur h k;simpa using h1
theorem Eo {L M:List Cl}(h:az CaC L M)(k:Int):((ao L k).getD bg).dim=((ao M k).getD bg).dim:=by
 have h1:=ur h k;cases h2:ao L k <;> cases h3:ao M k <;> (try rfl)<;>rw[h2,h3] at h1 <;> simp at h1
 exact h1
theorem DZ {a b:Cl}(h:CaC a b)(i:Nat):a.sides[i]?.map Side.cell=b.sides[i]?.map Side.cell:=by
 have h1:=ze2 (fun l:List Int=>l[i]?) h.2.2.2;simpa using h1
theorem Ex {L M:List Cl}(h:az CaC L M){a b:Cl}(hab:CaC a b)(i:Nat):ff L a i=ff M b i:=by
 have h1:=DZ hab i;unfold ff;cases h2:a.sides[i]? with
 | none =>
  cases h3:b.sides[i]? with
  | none=>rfl
  | some y=>rw[h2,h3] at h1; simp at h1
 | some x =>
  cases h3:b.sides[i]? with
  | none=>rw[h2,h3] at h1; simp at h1
  | some y =>
   rw[h2,h3] at h1;have h4:x.cell=y.cell:=by simpa using h1
   show bI L a i x=bI M b i y;unfold bI;rw[h4,Aq h,Eo h,hab.2.1,DZ hab<|i - 1]
theorem DG {L M:List Cl}(h:az CaC L M){a b:Cl}(hab:CaC a b):cw L a=cw M b:=by
 have hl:a.sides.length=b.sides.length:=hab.2.2.1.length_eq;have h1:eL a=eL b:=by unfold eL; rw[hab.2.1]
 have h2:aY a=aY b:=by unfold aY; rw[hab.2.1,hl]
 have h3:(List.range a.sides.length).any (ff L a)=(List.range b.sides.length).any (ff M b):=by
  rw[hl,show ff L a=ff M b from funext fun i=>Ex h hab i]
 have h4:a.sides.any bF=b.sides.any bF:=by
  rw[Bool.eq_iff_iff,zj8,zj8];exact⟨fun ⟨x,hx,hb⟩=>⟨x,hab.2.2.1.mem_iff.1 hx,hb⟩,fun ⟨x,hx,hb⟩=>⟨x,hab.2.2.1.mem_iff.2 hx,hb⟩⟩
 have h5:kW a.sides=kW b.sides:=Aa<|hab.2.2.1.map Side.sign;unfold cw;rw[h1,h2,h3,h4,h5,hab.2.1]
theorem zi {L0 M0:List Cl}(h0:az CaC L0 M0):∀ {L M:List Cl},az CaC L M→∀ n,fJ L0 L n=fJ M0 M n
 | [],[],_,_=>rfl
 | a::L,b::M,h,n=>by
  unfold fJ;rw[h.1.1,DG h0 h.1,zi h0 h.2]
 | [],_::_,h,_=>h.elim
 | _::_,[],h,_=>h.elim
theorem tm {tl:List Cl}:∀ {l:List Cl} {n:Int} {p:Int×Int},fJ tl l n=some p→p.2≠0
 | [],_,_,h=>by cases h
 | x::r,n,p,h=>by
  unfold fJ at h;split at h
  ·cases h; exact (by decide:(20:Int)≠0)
  ·split at h
   ·rename_i h1; cases h; exact h1
   ·exact tm h
theorem tC {α β α' β':Type}{R:α→β→Prop}{S:α'→β'→Prop}{f:α→α'}{k:β→β'}(hR:∀ a b,R a b→S (f a) (k b)):∀ {l:List α} {m:List β},az R l m→az S (l.map f) (m.map k)
 | [],[],_=>trivial
 | _::_,_::_,h=>⟨hR _ _ h.1,tC hR h.2⟩
 | [],_::_,h=>h.elim
 | _::_,[],h=>h.elim
theorem Dy {a b:Cl}(h:ShC a b):CaC (dn a) (dn b):=by
 have hp:(dn a).sides.Perm (dn b).sides:=(jG a.sides).trans<|h.2.2.trans (jG b.sides).symm;exact⟨h.1,h.2.1,hp,ue hp (ck a.sides)<|ck b.sides⟩
theorem Ci {B D:List Cl}(h:ShL B D)(hn:(B.map Cl.id).Nodup):az CaC (aa B) (aa D):=by
 obtain ⟨l1,hp,ha⟩:=h;have h1:sortBy Cl.id B=sortBy Cl.id l1:=uH hp.symm hn;unfold aa;rw[h1];exact tC (R:=ShC) (S:=CaC) (fun a b h=>Dy h)<|az.sortBy (R:=ShC) (f:=Cl.id) (h:=Cl.id) (fun a b h=>h.1) ha
theorem CE:∀ {L M:List Cl},az CaC L M→L.map Cl.id=M.map Cl.id
 | [],[],_=>rfl
 | a::L,b::M,h=>by rw[zg4,zg4,h.1.1,CE h.2]
 | [],_::_,h=>h.elim
 | _::_,[],h=>h.elim
theorem yT:∀ {L M:List Cl},az CaC L M→(∀ c∈L,c.sides.Pairwise fun a b=>a.cell<b.cell)→L=M
 | [],[],_,_=>rfl
 | a::L,b::M,h,hl=>by
  rw[yT h.2 fun c hc=>hl c (by simp[hc])];obtain ⟨⟨h1,h2,h3,h4⟩,-⟩:=h;have ha:=hl a (by simp);have hb:b.sides.Pairwise fun a b=>a.cell<b.cell:=by
   have h5:(a.sides.map Side.cell).Pairwise fun a b=>a<b:=by rw[zk5]; exact ha
   rw[h4,zk5] at h5;exact h5
  have h6:a.sides=b.sides:=List.Perm.eq_of_pairwise (le:=fun a b:Side=>a.cell<b.cell) (fun a b _ _ h1 h2=>by omega) ha hb h3;congr 1;cases a; cases b;simp at h1 h2 h6;rw[h1,h2,h6]
 | [],_::_,h,_=>h.elim
 | _::_,[],h,_=>h.elim
theorem tJ {B:List Cl}(hn:(B.map Cl.id).Nodup):(aa B).Pairwise fun a b=>a.id<b.id:=by
 have h1:((aa B).map Cl.id).Nodup:=by
  have:(aa B).map Cl.id=(sortBy Cl.id B).map Cl.id:=by unfold aa; rw[zi4]; rfl
  rw[this];exact ((jG B).map Cl.id).symm.nodup hn
 rw[List.Nodup,zk5] at h1;exact ((gi B).and h1).imp fun ⟨h2,h3⟩=>by have h2':_≤_:=h2; omega
theorem wS {B D:List Cl}(h:ShL B D)(hn:(B.map Cl.id).Nodup):aH 0 B=aH 0 D:=by
 have hca:=Ci h hn;have hlen:B.length=D.length:=h.length;have hsB:=tJ hn;have hsD:(aa D).Pairwise fun a b=>a.id<b.id:=by
  have h1:((aa B).map Cl.id).Pairwise fun a b=>a<b:=by rw[zk5]; exact hsB
  rw[CE hca,zk5] at h1;exact h1
 have htB:=bB hsB;have htD:=bB hsD;have h1:fJ (aW B) (aa B) 0=fJ (aW D) (aa D) 0:=by rw[htB,htD]; exact zi hca hca 0
 by_cases hl:(B.length:Int)>4000
 ·have hB:aq B=(0,2):=by unfold aq; rw[zg1 hl]
  have hD:aq D=(0,2):=by unfold aq; rw[zg1 oM]
  unfold aH;rw[fH,fH,hB,hD];rfl
 ·cases hq:fJ (aW B) (aa B) 0 with
  | some p =>
   have hB:aq B=p:=by unfold aq; rw[zf9 hl,hq]; rfl
   have hD:aq D=p:=by unfold aq; rw[zf9 oM,← h1,hq]; rfl
   have hp:=tm hq;unfold aH;rw[fH,fH,hB,hD,zf9 (by decide:¬ (0:Int)≠0),zf9 (by decide:¬ (0:Int)≠0),zg1 hp,zg1 hp]
  | none =>
   obtain ⟨-,-,h4⟩:=fD hq;have he:aa B=aa D:=yT hca fun c hc=>(DW (h4 c hc)<|oJ B c hc).asc;unfold aH;rw[he]
theorem Rt.findC {A:List Cl}(h:Rt A)(id:Int):findC A id=ao A id:=by
 unfold Go.Proofs.YtmmghffoakhheaaGreatDoor.findC;rw[h.tab];rfl
theorem Rt.ids {A:List Cl}(h:Rt A):(A.map Cl.id).Nodup:=by
 rw[List.Nodup,zk5];exact h.asc.imp fun h=>by omega
theorem Rt.few64 {A:List Cl}(h:Rt A){c:Cl}(hc:c∈A):c.sides.length≤64:=(uo (h.form c hc).ok).1
theorem Rt.signs {A:List Cl}(h:Rt A){c:Cl}(hc:c∈A):∀ x∈c.sides,x.sign=1∨x.sign = -1:=(h.form c hc).sg
theorem Rt.difS {A:List Cl}(h:Rt A){c:Cl}(hc:c∈A):(c.sides.map Side.cell).Nodup:=by
 rw[List.Nodup,zk5];exact (h.form c hc).asc.imp fun h=>by omega
theorem Rt.getD {A:List Cl}(_:Rt A)(id:Int):((ao A id).getD bg)=bg∨((ao A id).getD bg)∈A:=by
 cases h:ao A id with
 | none=>exact .inl rfl
 | some c=>exact .inr (eP h).1
theorem Rt.fits {A:List Cl}(h:Rt A):a8 A:=⟨by have:=h.few; omega,fun c hc=>by have:=h.few64 hc; omega⟩
theorem Rt.mem_above {A:List Cl}(h:Rt A){k id:Int}:id∈ah A k↔∃ c∈A,c.id=id∧lH c k=true:=by
 unfold ah;rw[h.tab,zf2];constructor
 ·rintro ⟨c,hc,rfl⟩;obtain ⟨h1,h2⟩:=zh4.1 hc;exact⟨c,h1,I,h2⟩
 ·rintro ⟨c,h1,rfl,h2⟩;exact⟨c,zh4.2 ⟨h1,h2⟩,I⟩
theorem Rt.above_nodup {A:List Cl}(h:Rt A)(k:Int):(ah A k).Nodup:=by
 unfold ah;rw[h.tab];exact (List.filter_sublist.map Cl.id).nodup h.ids
theorem Rt.not_self {A:List Cl}(h:Rt A)(k:Int):k ∉ ah A k:=fun hk=>by
 obtain ⟨c,hc,rfl,hh⟩:=h.mem_above.1 hk;unfold lH at hh;obtain ⟨x,hx,he⟩:=zj8.1 hh;obtain ⟨d,hd1,hd2⟩:=(h.form c hc).found x hx;rw[zg3 he,h.find hc] at hd1;cases hd1;omega
theorem Rt.edge {A:List Cl}(h:Rt A){c:Cl}(hc:c∈A)(hd:c.dim=1):∃ z0 z1,c.sides=[z0,z1]∧((z0.sign=1∧z1.sign = -1)∨(z0.sign = -1∧z1.sign=1)):=by
 have hf:=h.form c hc;have h1:=hf.cnt;have h2:c.sides.length=2:=by
  unfold aY at h1;simp[hd] at h1;omega
 obtain ⟨z0,z1,h3⟩:∃ z0 z1,c.sides=[z0,z1]:=by
  match hs:c.sides,h2 with
  | [z0,z1],_=>exact⟨z0,z1,rfl⟩
 refine⟨z0,z1,h3,?_⟩;have h4:=hf.one hd;have h5:=hf.sg z0 (by rw[h3]; simp);have h6:=hf.sg z1 (by rw[h3]; simp);rw[h3] at h4;simp[kW] at h4;omega
theorem Rt.above_one {A:List Cl}(h:Rt A){k m:Int}(ha:ah A k=[m]):∃ c∈A,c.id=m∧ao A m=some c∧lH c k=true:=by
 obtain ⟨c,hc,rfl,hh⟩:=h.mem_above.1 (show m∈ah A k by rw[ha]; simp);exact⟨c,hc,I,h.find hc,hh⟩
theorem qC {A:List Cl}(h:Rt A)(e:Ed):cl A e=dH A e:=by
 unfold cl dH;rw[h.findC,h.findC,Bool.and_comm]
theorem oG {A:List Cl}(h:Rt A)(e:Ed):∀ x∈be A e,x.sign=1∨x.sign = -1:=by
 unfold be
 rcases h.getD e.other with h1 | h1
 ·rw[h1]; intro x hx; cases hx
 ·exact h.signs h1
theorem jP {A:List Cl}(h:Rt A)(e:Ed):(be A e).length≤64:=by
 unfold be
 rcases h.getD e.other with h1 | h1
 ·rw[h1]; decide
 ·exact h.few64 h1
theorem mP {A:List Cl}(h:Rt A)(e:Ed)(ha:ah A e.cell=[e.other]):(be A e).any (fun x=>decide (x.cell=e.cell))=true:=by
 obtain ⟨c,hc,hi,hf,hh⟩:=h.above_one ha;unfold be;rw[hf];exact hh
theorem yS {cell:Int}:∀ {S:List Side} (a:Int),(∀ x∈S,x.cell≠cell)→S.foldl (fun a x=>if x.cell=cell then x.sign else a) a=a
 | [],_,_=>rfl
 | x::S,a,h=>by
  rw[zi7,zf9 (h x<|by simp)];exact yS a fun y hy=>h y (by simp[hy])
theorem tf {cell:Int}:∀ {S:List Side},(S.map Side.cell).Nodup→S.any (fun x=>decide (x.cell=cell))=true→S.eraseIdx (S.findIdx fun x=>decide (x.cell=cell))=S.filter (fun x=>!decide (x.cell=cell))∧lE S (S.findIdx fun x=>decide (x.cell=cell))=sgF S cell
 | [],_,h=>by cases h
 | x::S,hn,h=>by
  rw[zg4,zk3] at hn;rw[List.findIdx_cons];by_cases hx:x.cell=cell
  ·have hno:∀ y∈S,y.cell≠cell:=fun y hy e=>hn.1<|zf2.2 ⟨y,hy,by rw[e,hx]⟩;have h1:S.filter (fun x=>!decide (x.cell=cell))=S:=List.filter_eq_self.2 fun y hy=>by simp[hno y hy]
   rw[zf8 hx];refine⟨by simp[hx,h1],?_⟩;show x.sign=_;unfold sgF;rw[zi7,zg1 hx,yS _ hno]
  ·have h1:S.any (fun x=>decide (x.cell=cell))=true:=by simpa [hx] using h
   obtain ⟨h2,h3⟩:=tf hn.2 h1;rw[zf7 hx];refine⟨?_,?_⟩
   ·simp[hx,h2]
   ·have h4:sgF (x::S) cell=sgF S cell:=by unfold sgF; rw[zi7,zf9 hx]
    rw[h4,← h3];simp[lE]
theorem vI {A:List Cl}(h:Rt A)(e:Ed)(ha:ah A e.cell=[e.other]):sortBy Prod.fst (em A e)=df A e:=by
 have hmem:=mP h e ha;obtain ⟨c,hc,hi,hf,hh⟩:=h.above_one ha;have hS:be A e=c.sides:=by unfold be; rw[hf]; rfl
 have hR:df A e=(c.sides.filter fun x=>!decide (x.cell=e.cell)).map fun x=>(x.cell,-sgF c.sides e.cell * x.sign):=by unfold df; rw[h.findC,hf]; rfl
 rw[hS] at hmem;obtain ⟨h1,h2⟩:=tf (h.difS hc) hmem;have hC:em A e=df A e:=by
  rw[hR];unfold em;rw[hS,h1,h2]
 rw[hC];refine (bG ?_<|aA.refl _).symm;rw[hR];unfold Srt;rw[zk5];exact ((h.form c hc).asc.sublist List.filter_sublist).imp fun h=>by dsimp only; omega
theorem nA {k m:Int}{ch x:List Tm}(h:m=k):cD k ch (m,x)=(m,ch):=zg1 h
theorem k6 {k m:Int}{ch x:List Tm}(h:¬ m=k):cD k ch (m,x)=(m,x):=zf9 h
def pg (A:List Cl)(e:Ed)(k:Int):List Tm:=if k=e.cell then df A e else if k=e.other then [] else [(k,1)]
theorem vH {A:List Cl}(h:Rt A)(e:Ed)(ha:ah A e.cell=[e.other])(v1 v2:Value)(k:Int):sw [(e.cell,v1,em A e),(e.other,v2,[])] k=pg A e k:=by
 unfold sw pg;by_cases h1:k=e.cell
 ·subst h1;rw[zg1 rfl,List.find?_cons_of_pos (by simp)];exact vI h e ha
 ·rw[zf9 h1,List.find?_cons_of_neg (by simpa using fun e=>h1 e.symm)];by_cases h2:k=e.other
  ·subst h2;rw[zg1 rfl,List.find?_cons_of_pos (by simp)];rfl
  ·rw[zf9 h2,List.find?_cons_of_neg (by simpa using fun e=>h2 e.symm)];rfl
theorem x6 {A:List Cl}(h:Rt A)(e:Ed)(ha:ah A e.cell=[e.other]):(((aW A).map e6).map<|cD e.cell<|df A e).map (cD e.other [])=A.map fun c=>(c.id,pg A e c.id):=by
 have hne:e.cell≠e.other:=fun he=>by
  have:=h.not_self e.cell;rw[ha,he] at this;exact this (by simp)
 rw[h.tab,zi4,zi4];refine zc8 fun c _=>?_;show cD e.other [] (cD e.cell (df A e) (c.id,[(c.id,1)]))=_;unfold pg;by_cases h1:c.id=e.cell
 ·rw[nA h1,k6 (by rw[h1]; exact hne),zg1 h1]
 ·rw[k6 h1,zf9 h1];by_cases h2:c.id=e.other
  ·rw[nA h2,zg1 h2]
  ·rw[k6 h2,zf9 h2]
theorem tM {A:List Cl}(h:Rt A)(e:Ed):br A e=a6 A e:=by
 unfold br a6;rw[h.findC,h.findC,h.findC];have h1:(e.new<1∨e.other<1∨e.new=e.other)↔(min e.new e.other<1∨e.new=e.other):=oM;simp only[h1];cases ao A e.cell <;> rfl
theorem s5 {e:Ed}:∀ {S:List Side},(S.map Side.cell).Nodup→ed e S=if S.any (fun x=>decide (x.cell=e.cell)) then [⟨e.other,CK S e.cell⟩] else []
 | [],_=>rfl
 | x::S,hn=>by
  rw[zg4,zk3] at hn;by_cases hx:x.cell=e.cell
  ·have hno:∀ y∈S,y.cell≠e.cell:=fun y hy e'=>hn.1<|zf2.2 ⟨y,hy,by rw[e',hx]⟩;have h1:S.filter (fun x=>decide (x.cell=e.cell))=[]:=List.filter_eq_nil_iff.2 fun y hy=>by simp[hno y hy]
   unfold ed CK;simp[hx,h1]
  ·have ih:=s5 (e:=e) hn.2;unfold ed CK at ih ⊢;simp[hx] at ih ⊢;exact ih
theorem wt {c:Cl}:∀ {B:List Cl},(B.map Cl.id).Nodup→(∃ x∈B,x.id=c.id)→dK B c=B.map fun y=>if y.id=c.id then c else y
 | [],_,⟨x,hx,_⟩=>by cases hx
 | x::B,hn,hx=>by
  rw[zg4,zk3] at hn;unfold dK;by_cases h1:c.id=x.id
  ·rw[zg1 h1,zg4,zg1 h1.symm];congr 1;have:B.map (fun y=>if y.id=c.id then c else y)=B.map id:=zc8 fun y hy=>by
    rw[zf9 fun e=>hn.1<|zf2.2 ⟨y,hy,by rw[e,h1]⟩];rfl
   rw[this,List.map_id]
  ·rw[zf9 h1,zg4,zf9 fun e=>h1 e.symm];congr 1;refine wt hn.2 ?_;obtain ⟨y,hy,he⟩:=hx
   rcases zf1.1 hy with rfl | hy
   ·exact absurd he.symm h1
   ·exact⟨y,hy,he⟩
theorem wL {A:List Cl}{k:Int}(h:(ao A k).isSome=false):∀ x∈A,x.id≠k:=fun x hx he=>by
 have h1:(ao A k).isSome=true:=by
  unfold ao;rw[List.find?_isSome];exact⟨x,hx,by simpa using he⟩
 rw[h] at h1;cases h1
theorem Ce {S:List Side}{z0 z1:Side}(hl:S=[z0,z1])(h:(z0.sign=1∧z1.sign = -1)∨(z0.sign = -1∧z1.sign=1)):iY S true=⟨(iY S true).cell,1⟩∧iY S false=⟨(iY S false).cell,-1⟩:=by
 subst hl;obtain ⟨c0,s0⟩:=z0;obtain ⟨c1,s1⟩:=z1
 rcases h with ⟨h0,h1⟩ | ⟨h0,h1⟩ <;> dsimp only at h0 h1 <;> subst h0 <;> subst h1 <;> exact⟨rfl,rfl⟩
theorem nY {A:List Cl}(h:Rt A)(e:Ed)(hc:a6 A e=0):eK A e=A.map (cY e (iY ((findC A e.cell).getD bg).sides false).cell)++[⟨e.new,0,[]⟩,⟨e.other,1,[⟨e.new,-1⟩,⟨(iY ((findC A e.cell).getD bg).sides true).cell,1⟩]⟩]:=by
 rw[h.findC];unfold a6 at hc;cases hf:ao A e.cell with
 | none=>rw[hf] at hc; cases hc
 | some c =>
 rw[hf] at hc;dsimp only at hc;split at hc
 ·cases hc
 rename_i hd;split at hc
 ·cases hc
 rename_i hnew;split at hc
 ·cases hc
 rename_i hno;rw[zj4,not_or,zj7,zj7] at hno;have hd:c.dim=1:=Decidable.not_not.1 hd;obtain ⟨hcA,hci⟩:=eP hf;obtain ⟨z0,z1,hz,hsg⟩:=h.edge hcA hd;obtain ⟨e1,e2⟩:=Ce hz hsg;unfold eK;rw[hf,Option.getD_some];generalize iY c.sides true=zt at *;generalize iY c.sides false=zf at *;have hids:(aX A e<|ah A e.cell).map Cl.id=A.map Cl.id:=by
  unfold aX;rw[zi4];refine zc8 fun y _=>?_;show (if y.id∈ah A e.cell then ex e y else y).id=y.id;split <;> rfl
 have hmemid:∀ k,(∃ x∈aX A e (ah A e.cell),x.id=k)→∃ x∈A,x.id=k:=fun k ⟨x,hx,he⟩=>by
  have h1:k∈(aX A e<|ah A e.cell).map Cl.id:=zf2.2 ⟨x,hx,he⟩;rw[hids] at h1;obtain ⟨y,hy,he⟩:=zf2.1 h1;exact⟨y,hy,he⟩
 have hno1:=wL hno.1;have hno2:=wL hno.2;have hp1:dK (aX A e<|ah A e.cell) ⟨e.new,0,[]⟩=aX A e (ah A e.cell)++[⟨e.new,0,[]⟩]:=m8 fun x hx he=>by
  obtain ⟨y,hy,he⟩:=hmemid e.new ⟨x,hx,he⟩;exact hno1 y hy he
 have hp2:dK (aX A e (ah A e.cell)++[⟨e.new,0,[]⟩]) ⟨e.other,1,[⟨e.new,-1⟩,zt]⟩=(aX A e (ah A e.cell)++[⟨e.new,0,[]⟩])++[⟨e.other,1,[⟨e.new,-1⟩,zt]⟩]:=m8 fun x hx he=>by
  rcases zf3.1 hx with hx | hx
  ·obtain ⟨y,hy,he⟩:=hmemid e.other ⟨x,hx,he⟩;exact hno2 y hy he
  ·simp at hx;subst hx;exact hnew<|.inr he
 have hcn:e.cell≠e.new:=fun he=>hno1 c hcA (by rw[hci,he]);have hco:e.cell≠e.other:=fun he=>hno2 c hcA (by rw[hci,he]);have hnd:(((aX A e (ah A e.cell)++[(⟨e.new,0,[]⟩:Cl)])++[(⟨e.other,1,[⟨e.new,-1⟩,zt]⟩:Cl)]).map Cl.id).Nodup:=by
  rw[← hp2,← hp1];exact fk<|fk (by rw[hids]; exact h.ids)
 rw[hp1,hp2,wt hnd]
 ·rw[zg5,zg5,zg8];congr 1
  ·unfold aX;rw[zi4];refine zc8 fun y hy=>?_;show (if (if y.id∈ah A e.cell then ex e y else y).id=e.cell then _ else _)=_;have hyi:(if y.id∈ah A e.cell then ex e y else y).id=y.id:=by split <;> rfl
   rw[hyi];unfold cY;by_cases h1:y.id=e.cell
   ·have hyc:y=c:=h.same hy hcA (by rw[h1,hci]);subst hyc;rw[zg1 h1,zg1 h1,h1,hd,e2]
   ·rw[zf9 h1,zf9 h1,s5<|h.difS hy];by_cases h2:lH y e.cell=true
    ·have h3:y.id∈ah A e.cell:=h.mem_above.2 ⟨y,hy,rfl,h2⟩;unfold lH at h2;rw[zg1 h3,zg1 h2];rfl
    ·have h3:y.id ∉ ah A e.cell:=fun h4=>by
      obtain ⟨z,hz,he,hh⟩:=h.mem_above.1 h4;rw[h.same hz hy he] at hh;exact h2 hh
     unfold lH at h2;rw[zf9 h3,zf9 h2,zc6]
  ·simp only[zg4,List.map_nil,List.cons_append,List.nil_append];rw[zf9 (by exact fun he=>hcn he.symm),zf9 (by exact fun he=>hco he.symm),e1]
 ·have h1:e.cell∈(aX A e<|ah A e.cell).map Cl.id:=by
   rw[hids];exact zf2.2 ⟨c,hcA,hci⟩
  obtain ⟨x,hx,he⟩:=zf2.1 h1;exact (by exact⟨x,List.mem_append_left _<|List.mem_append_left _ hx,he⟩)
theorem ShC.refl (c:Cl):ShC c c:=⟨rfl,rfl,.refl _⟩
theorem wh {A:List Cl}(h:Rt A)(e:Ed)(hc:a6 A e=0):ShL (eK A e) (eC A e):=by
 refine⟨eC A e,?_,?_⟩
 ·rw[nY h e hc];exact List.perm_append_comm
 ·have:∀ l:List Cl,az ShC l l:=fun l=>by
   induction l with
   | nil=>trivial
   | cons x l ih=>exact⟨ShC.refl x,ih⟩
  exact this _
theorem ki {A:List Cl}(h:Rt A)(e:Ed):((eK A e).map Cl.id).Nodup:=by
 unfold eK;have hids:(aX A e<|ah A e.cell).map Cl.id=A.map Cl.id:=by
  unfold aX;rw[zi4];refine zc8 fun y _=>?_;show (if y.id∈ah A e.cell then ex e y else y).id=y.id;split <;> rfl
 exact fk<|fk<|fk (by rw[hids]; exact h.ids)
def jF (e:Ed)(k:Int):List Tm:=if k=e.cell then cg e else [(k,1)]
theorem rO (e:Ed)(v1:Value)(k:Int):sw [(e.cell,v1,[(e.cell,1),(e.other,1)])] k=jF e k:=by
 unfold sw jF cg;by_cases h1:k=e.cell
 ·subst h1;rw[zg1 rfl,List.find?_cons_of_pos (by simp)];show sortBy Prod.fst [(e.cell,(1:Int)),(e.other,1)]=_;simp only[sortBy,ins];by_cases h2:e.other<e.cell
  ·rw[zg1 h2,zf9 oM]
  ·rw[zf9 h2,zg1 oM]
 ·rw[zf9 h1,List.find?_cons_of_neg (by simpa using fun e=>h1 e.symm)];rfl
theorem tK {A:List Cl}(h:Rt A)(e:Ed):((aW A).map e6).map (cD e.cell<|cg e)=A.map fun c=>(c.id,jF e c.id):=by
 rw[h.tab,zi4];refine zc8 fun c _=>?_;show cD e.cell (cg e) (c.id,[(c.id,1)])=_;unfold jF;by_cases h1:c.id=e.cell
 ·rw[nA h1,zg1 h1]
 ·rw[k6 h1,zf9 h1]
theorem mL {A:List Cl}(h:Rt A)(e:Ed):cZ A e=dz A e:=by
 have h1:mg A=e8 A:=funext fun id=>by unfold mg e8; rw[h.findC]
 have h2:iI A=sf A:=funext fun id=>by unfold iI sf; rw[h.findC]
 have h3:gN A e.pairs=iL A e.pairs:=funext fun p=>by unfold gN iL; rw[h2]
 have h4:(fun p:Pr=>(findC A p.1).isSome&&(findC A p.2).isSome)=fun p=>(ao A p.1).isSome&&(ao A p.2).isSome:=funext fun p=>by rw[h.findC,h.findC]
 unfold cZ dz;rw[h1,h3,h4]
theorem wJ (A:List Cl)(e:Ed):ShL (el A e) (fp A e):=by
 refine⟨el A e,.refl _,?_⟩;unfold el fp;have:de A (e.pairs.map Prod.snd)=gC A (e.pairs.map Prod.snd):=rfl;rw[this];generalize gC A (e.pairs.map Prod.snd)=l;induction l with
 | nil=>trivial
 | cons c l ih=>exact⟨⟨rfl,rfl,fy _⟩,ih⟩
theorem kl {A:List Cl}(h:Rt A)(e:Ed):((el A e).map Cl.id).Nodup:=by
 unfold el;rw[zi4];have:(Cl.id ∘ Be (byF e.pairs))=Cl.id:=rfl;rw[this];exact (List.filter_sublist.map Cl.id).nodup h.ids
theorem qX {k:Int}:∀ {ps:List Pr} (ch:List Tm),(ps.map Prod.snd).Nodup→ps.foldl (fun p q=>cD q.2 [(q.1,1)] p) (k,ch)=(k,match byF ps k with | some t=>[(t,1)] | none=>ch)
 | [],_,_=>rfl
 | q::ps,ch,hn=>by
  rw[zg4,zk3] at hn;rw[zi7];by_cases h1:k=q.2
  ·have h2:cD q.2 [(q.1,1)] (k,ch)=(k,[(q.1,1)]):=zg1 h1;have h3:byF ps k=none:=by
    unfold byF;rw[Option.map_eq_none_iff,List.find?_eq_none];intro p hp he;exact hn.1<|zf2.2 ⟨p,hp,by rw[← h1]; simpa using he⟩
   have h4:byF (q::ps) k=some q.1:=by unfold byF; rw[List.find?_cons_of_pos (by simpa using h1.symm)]; rfl
   rw[h2,qX _ hn.2,h3,h4]
  ·have h2:cD q.2 [(q.1,1)] (k,ch)=(k,ch):=zf9 h1;have h4:byF (q::ps) k=byF ps k:=by unfold byF; rw[List.find?_cons_of_neg (by simpa using fun e=>h1 e.symm)]
   rw[h2,qX _ hn.2,h4]
theorem oa:∀ (ps:List Pr) (M:List (Int×List Tm)),eU ps M=M.map fun p=>ps.foldl (fun p q=>cD q.2 [(q.1,1)] p) p
 | [],M=>by simp[eU]
 | q::ps,M=>by
  have h1:eU (q::ps) M=eU ps (M.map<|cD q.2 [(q.1,1)]):=rfl;rw[h1,oa ps,zi4];rfl
theorem t6 {A:List Cl}(h:Rt A)(e:Ed)(hd:mf e.pairs=false):eU e.pairs ((aW A).map e6)=A.map fun c=>(c.id,i6 e c.id):=by
 have hn:(e.pairs.map Prod.snd).Nodup:=lk (by
  unfold mf at hd;rw[decide_eq_false_iff_not,Decidable.not_not] at hd;exact hd)
 rw[h.tab,oa,zi4];refine zc8 fun c _=>?_;show e.pairs.foldl (fun p q=>cD q.2 [(q.1,1)] p) (c.id,[(c.id,1)])=_;rw[qX _ hn];unfold i6;cases byF e.pairs c.id <;> rfl
theorem Aw {A:List Cl}{e:Ed}(h:dz A e=0):mf e.pairs=false:=by
 unfold dz at h;split at h
 ·split at h
  ·cases h
  ·rename_i h1; simpa using h1
 ·cases h
set_option maxHeartbeats 2000000
def bP (A:List Cl)(e:Ed):Int:=if e.kind=1 then fl A e else if e.kind=2 then iD A e else if e.kind=3 then a6 A e else if e.kind=4 then dz A e else if e.kind=5 then dH A e else 1
def cQ (A:List Cl)(e:Ed):List Cl:=if e.kind=1 then A++[⟨e.cell,e.dim,e.sides⟩] else if e.kind=2 then de A [e.cell] else if e.kind=3 then eC A e else if e.kind=4 then fp A e else de A [e.cell,e.other]
def wY (A:List Cl)(e:Ed)(k:Int):List Tm:=if e.kind=3 then jF e k else if e.kind=4 then i6 e k else if e.kind=5 then pg A e k else [(k,1)]
def bkK (e:Ed):Bool:=decide (e.kind=2)
def gn (l:List Cl)(e:Ed):Int×List Cl:=if (aq l).2=0 then aH (bP (aa l) e) (cQ (aa l) e) else (1,[])
def CO (l:List Cl)(e:Ed):List (Int×List Tm):=(if bkK e then (gn l e).2 else aa l).map fun c=>(c.id,wY (aa l) e c.id)
theorem eV.congr {code:Int}{D:List Cl}{ims ims':List (Int×List Tm)}{bk bk':Bool}{r:Value}{g:PH}(h:eV code D ims bk r g)(hi:code=0→ims=ims')(hb:code=0→bk=bk'):eV code D ims' bk' r g:=by
 obtain ⟨u,p,n,c,b,h1,h2,h3,h4⟩:=h;refine⟨u,p,n,c,b,h1,h2,fun h0=>?_,h4⟩;obtain ⟨h5,h6⟩:=h3 h0;rw[hi h0] at h6;exact⟨h5.trans<|hb h0,h6⟩
theorem zV {A:List Cl}(hn:(A.map Cl.id).Nodup)(a b:Int):nj (nj A a) b=de A [a,b]:=by
 have h0:A=gC A []:=(List.filter_eq_self.2 fun _ _=>by simp).symm;have h1:nj A a=gC A [a]:=by
  have:=k7 hn [] a;rw[← h0] at this;exact this
 rw[h1,k7 hn];rfl
theorem zW {A:List Cl}(hn:(A.map Cl.id).Nodup)(a:Int):nj A a=de A [a]:=by
 have h0:A=gC A []:=(List.filter_eq_self.2 fun _ _=>by simp).symm;have:=k7 hn [] a;rw[← h0] at this;exact this
theorem sS {A:List Cl}(hn:(A.map Cl.id).Nodup)(ks:List Int):((de A ks).map Cl.id).Nodup:=(List.filter_sublist.map Cl.id).nodup hn
theorem sV {A:List Cl}(h:Rt A)(ks:List Int):aa (de A ks)=de A ks∧aW (de A ks)=de A ks:=by
 have h1:(de A ks).Pairwise fun a b=>a.id<b.id:=h.asc.sublist List.filter_sublist;have h2:aa (de A ks)=de A ks:=by
  unfold aa;rw[(bG (key:=Cl.id) (h1.imp fun h=>by omega)<|aA.refl _).symm];have:∀ c∈de A ks,dn c=c:=fun c hc=>by
   unfold dn;rw[(bG (key:=Side.cell) ((h.form c (zh4.1 hc).1).asc.imp fun h=>by omega)<|aA.refl c.sides).symm]
  rw[zc8 this];simp
 exact⟨h2,by rw[bB (by rw[h2]; exact h1),h2]⟩
theorem pM {A:List Cl}(h:Rt A)(e:Ed)(hc:a6 A e=0):a8 (eK A e):=by
 rw[nY h e hc];have hl:=h.few;refine⟨by simp only[ze5,ze6,ze8,zc4]; omega,fun c hc=>?_⟩
 rcases zf3.1 hc with hc | hc
 ·obtain ⟨y,hy,rfl⟩:=zf2.1 hc;have h1:=h.few64 hy;have h2:(ed e y.sides).length≤y.sides.length:=by unfold ed; rw[ze6]; exact zc5 _ _
  unfold cY;split
  ·simp
  ·simp only[ze5]; omega
 ·simp at hc
  rcases hc with rfl | rfl <;> simp
theorem qu {A:List Cl}(hf:a8 A)(e:Ed):a8 (el A e):=by
 refine⟨?_,fun c hc=>?_⟩
 ·unfold el;rw[ze6];exact Nat.lt_of_le_of_lt (zc5 _ _) hf.1
 ·unfold el at hc;obtain ⟨y,hy,rfl⟩:=zf2.1 hc;have h1:=hf.2 y (zh4.1 hy).1;show (iz<|y.sides.map<|dQ<|byF e.pairs).length<_;rw[(fy _).length_eq,ze6];exact h1
theorem zK {A:List Cl}(hA:Rt A)(e:Ed):jJ (.func (.func 107) #[] #[]) e A (a6 A e) (eK A e) (jF e) false:=by
 intro E g s bx mb ms u v rs hu hO hv;refine cX.mk (args:=[_,_]) (cap:=[]) call107 ?_;refine (xh E g s bx mb ms u v e A rs hu hA.fits hA.ids hO hv ?_ (hA.above_nodup _) (hA.not_self _) ?_).mono ?_
 ·intro id hid;obtain ⟨c,hc,rfl,hh⟩:=hA.mem_above.1 hid;exact⟨c,hA.find hc,hh,hA.few64 hc⟩
 ·intro c hc hd;exact hA.edge (eP hc).1 hd
 ·rintro r g' s' ⟨h1,h2,h3⟩;refine⟨h1,h2,?_⟩;by_cases h0:a6 A e=0
  ·rw[zg1 h0] at h3 ⊢;obtain ⟨rs',v1,p,n,c,hv1,h4,rfl⟩:=h3;have hne:e.cell≠e.other:=fun he=>by
    unfold a6 at h0;cases hf:ao A e.cell with
    | none=>rw[hf] at h0; cases h0
    | some c =>
     rw[hf] at h0;rw[he] at hf;rw[hf] at h0;dsimp only at h0;split at h0
     ·cases h0
     ·split at h0
      ·cases h0
      ·simp at h0
   refine⟨rs',_,h4,?_,by simp,rO e v1,I⟩;intro t ht;simp at ht;subst ht;exact⟨by simp,by simpa using hne,p,n,c,hv1⟩
  ·rw[zf9 h0] at h3 ⊢;exact h3
theorem Av {A:List Cl}(hA:Rt A)(e:Ed)(hpl:e.pairs.length<1099511627776):jJ (.func (.func 108) #[] #[]) e A (dz A e) (el A e) (i6 e) false:=by
 intro E g s bx mb ms u v rs hu hO hv;refine cX.mk (args:=[_,_]) (cap:=[]) call108<|Ctr.freezeO (L:=[edP bx u mb ms false,mp mb<|rs.map am,mp ms []]) hO fun g1 hle1 hall=>?_;refine (rW E g1 s bx mb ms u v e A rs hA.fits hA.ids hall (hv.mono hle1) hpl).mono ?_;rintro r g' s' ⟨h1,h2,h3⟩;exact⟨hle1.trans h1,h2,h3⟩
theorem DJ {A:List Cl}(hA:Rt A)(e:Ed):jJ (.func (.func 109) #[] #[]) e A (dH A e) (nj (nj A e.cell) e.other) (pg A e) false:=by
 intro E g s bx mb ms u v rs hu hO hv;refine cX.mk (args:=[_,_]) (cap:=[]) call109<|Ctr.freezeO (L:=[edP bx u mb ms false,mp mb<|rs.map am,mp ms []]) hO fun g1 hle1 hall=>?_;refine (sa E g1 s bx mb ms u v e A rs (hu.mono hle1) hA.fits hall (hv.mono hle1) (oG hA e) (jP hA e)<|mP hA e).mono ?_;rintro r g' s' ⟨h1,h2,h3⟩;refine⟨hle1.trans h1,h2,?_⟩;by_cases h0:dH A e=0
 ·rw[zg1 h0] at h3 ⊢;obtain ⟨v1,p,n,c,hv1,rfl⟩:=h3;have ha:ah A e.cell=[e.other]:=by
   unfold dH at h0;split at h0
   ·split at h0
    ·rename_i h; exact h.1
    ·cases h0
   ·cases h0
  obtain ⟨cy,hcy,hi,hf,hh⟩:=hA.above_one ha;have hne:e.cell≠e.other:=fun he=>by
   have:=hA.not_self e.cell;rw[ha,he] at this;exact this (by simp)
  refine⟨ni (ni rs e.cell) e.other,_,((kU (fun _ _ h=>h.1) e.other<|kU (fun _ _ h=>h.1) e.cell hall).mono fun _ _=>ay.mono h1),?_,?_,vH hA e ha v1<|.slice none 0 0,I⟩
  ·intro t ht;simp at ht
   rcases ht with rfl | rfl
   ·have hS:be A e=cy.sides:=by unfold be; rw[hf]; rfl
    have h64:=jP hA e;refine⟨?_,?_,p,n,c,hv1⟩
    ·show (em A e).length<_;unfold em;rw[ze6];have:=List.length_eraseIdx_le (be A e) ((be A e).findIdx fun x=>decide (x.cell=e.cell));omega
    ·show ((em A e).map Prod.fst).Nodup;unfold em;rw[zi4];have hs:((be A e).eraseIdx<|(be A e).findIdx fun x=>decide (x.cell=e.cell)).Sublist (be A e):=List.eraseIdx_sublist _ _;refine (hs.map Side.cell).nodup ?_;rw[hS];exact hA.difS hcy
   ·exact⟨by simp,List.nodup_nil,none,0,0,I⟩
  ·simpa using hne
 ·rw[zf9 h0] at h3 ⊢;exact h3
theorem ya {A:List Cl}{e:Ed}(h:fl A e=0):dK A ⟨e.cell,e.dim,e.sides⟩=A++[⟨e.cell,e.dim,e.sides⟩]:=by
 refine m8 fun x hx hxe=>?_;unfold fl at h;have h1:(ao A e.cell).isSome=true:=by
  unfold ao;rw[List.find?_isSome];exact⟨x,hx,by simpa using hxe⟩
 rw[h1] at h;cases h
theorem wD {A:List Cl}(hA:Rt A)(e:Ed)(hes:e.sides.length<1099511627776)(hpl:e.pairs.length<1099511627776)(hk:e.kind=1∨e.kind=2∨e.kind=3∨e.kind=4∨e.kind=5) :
  ∃ fv B,dF ku e.kind=some fv∧jJ fv e A (bP A e) B (wY A e) (bkK e)∧(bP A e=0→a8 B∧(B.map Cl.id).Nodup∧aH 0 B=aH 0 (cQ A e)):=by
 unfold bP wY bkK cQ;have hs:(fun k:Int=>[(k,(1:Int))])=DU:=rfl
 rcases hk with hk | hk | hk | hk | hk <;> simp only[hk] <;> simp only[Int.reduceEq,if_true,if_false,decide_true,decide_false]
 ·refine⟨_,dK A ⟨e.cell,e.dim,e.sides⟩,I,(qI A e hes).gen,fun h0=>?_⟩;have hB:=ya h0;refine⟨?_,fk hA.ids,by rw[hB]⟩;rw[hB];have hl:=hA.few;refine⟨by rw[ze5,ze7]; omega,fun c hc=>?_⟩
  rcases zf3.1 hc with hc | hc
  ·exact hA.fits.2 c hc
  ·simp at hc; subst hc; exact hes
 ·refine⟨_,nj A e.cell,I,(p4 A hA.fits e).gen,fun h0=>?_⟩;rw[zW hA.ids];exact⟨fj hA.fits _,sS hA.ids _,I⟩
 ·refine⟨_,eK A e,I,zK hA e,fun h0=>?_⟩;exact⟨pM hA e h0,ki hA e,wS (wh hA e h0)<|ki hA e⟩
 ·refine⟨_,el A e,I,Av hA e hpl,fun h0=>?_⟩;exact⟨qu hA.fits e,kl hA e,wS (wJ A e)<|kl hA e⟩
 ·refine⟨_,nj (nj A e.cell) e.other,I,DJ hA e,fun h0=>?_⟩;rw[zV hA.ids];exact⟨fj hA.fits _,sS hA.ids _,I⟩
theorem Dz {e:Ed}(hk:¬ (e.kind=1∨e.kind=2∨e.kind=3∨e.kind=4∨e.kind=5)):dF ku e.kind=none:=by
 unfold ku;simp only[cB,wz]
 repeat' rw[zf9 oM]
theorem qD {A:List Cl}{e:Ed}(hk:¬ (e.kind=1∨e.kind=2∨e.kind=3∨e.kind=4∨e.kind=5)):bP A e=1:=by
 unfold bP;rw[zf9 oM,zf9 oM,zf9 oM,zf9 oM,zf9 oM]
theorem jz.congr {g0:PH}{code:Int}{D:List Cl}{ims ims':List (Int×List Tm)}{bk bk':Bool}{r:Value}{g:PH}(h:jz g0 code D ims bk r g)(hi:code=0→ims=ims')(hb:code=0→bk=bk'):jz g0 code D ims' bk' r g:=by
 obtain ⟨u,p,n,c,b,h1,h2,h3,h4⟩:=h;refine⟨u,p,n,c,b,h1,h2,fun h0=>?_,h4⟩;obtain ⟨h5,h6⟩:=h3 h0;rw[hi h0] at h6;exact⟨h5.trans<|hb h0,h6⟩
theorem uW (E:World)(g:PH)(s:Own)(v ev:Value)(l:List Cl)(e:Ed)(hv:ak g v l)(hf:a8 l)(he:EdR g ev e)(hes:e.sides.length<1099511627776)(hpl:e.pairs.length<1099511627776) :
  Ctr Tryz.prog E 43 #[.agg #[v],ev] g s (fun r g' s'=>s=s'∧Le g g'∧jz g (gn l e).1 (gn l e).2 (CO l e) (bkK e) r g'):=by
 by_cases hr:(aq l).2=0
 ·have hA:=mq hr;have hap:gn l e=aH (bP (aa l) e) (cQ (aa l) e):=zg1 hr;by_cases hk:e.kind=1∨e.kind=2∨e.kind=3∨e.kind=4∨e.kind=5
  ·obtain ⟨fv,B,h1,h2,h3⟩:=wD hA e hes hpl hk;have hout:aH (bP (aa l) e) B=gn l e:=by
    rw[hap];by_cases h0:bP (aa l) e=0
    ·rw[h0]; exact (h3 h0).2.2
    ·unfold aH; rw[zg1 h0,zg1 h0]
   have h4:=ye E g s v ev l e hv hf he hr fv (bP (aa l) e) B (bkK e) h1 (wY (aa l) e) h2 (fun h0=>⟨(h3 h0).1,(h3 h0).2.1⟩);refine h4.mono fun r g' s' ⟨h5,h6,h7⟩=>⟨h5,h6,?_⟩;rw[hout] at h7;refine h7.congr (fun h0=>?_) fun _=>I;have h8:aa B=(gn l e).2:=by
    rw[← hout] at h0 ⊢;unfold aH at h0 ⊢;split at h0
    ·rename_i hh; exact absurd h0 hh
    ·rename_i hh;rw[zf9 hh];split at h0
     ·rename_i hh2; exact absurd h0 hh2
     ·rename_i hh2; rw[zf9 hh2]
   unfold CO;rw[h8]
  ·have hc1:=qD (A:=aa l) hk;have hout:gn l e=(1,[]):=by rw[hap,hc1]; rfl
   rw[hout];exact qK E g s v ev l e hv hf he _ _<|.inl<|Dz hk
 ·have hout:gn l e=(1,[]):=zf9 hr;rw[hout];exact qK E g s v ev l e hv hf he _ _<|.inr hr
theorem xz (E:World)(g:PH)(s:Own)(v ev:Value)(l:List Cl)(e:Ed)(hv:ak g v l)(hf:a8 l)(he:EdR g ev e)(hes:e.sides.length<1099511627776)(hpl:e.pairs.length<1099511627776) :
  Ctr Tryz.prog E 43 #[.agg #[v],ev] g s (fun r g' s'=>s=s'∧Le g g'∧eV (gn l e).1 (gn l e).2 (CO l e) (bkK e) r g') :=
 (uW E g s v ev l e hv hf he hes hpl).mono fun _ _ _ ⟨h1,h2,h3⟩=>⟨h1,h2,h3.old⟩
theorem zZ (E:World)(g:PH)(s:Own)(v ev:Value)(l:List Cl)(e:Ed)(hv:ak g v l)(hf:a8 l)(he:EdR g ev e)(hes:e.sides.length<1099511627776)(hpl:e.pairs.length<100000000000) :
  Ctr Tryz.prog E 45 #[.agg #[v],ev] g s (fun r g' s'=>s=s'∧Le g g'∧eV (gn l e).1 (gn l e).2 (CO l e) (bkK e) r g'):=by
 by_cases hr:(aq l).2=0
 ·have hA:=mq hr;have hAf:=hA.fits;have hap:gn l e=aH (bP (aa l) e) (cQ (aa l) e):=zg1 hr;by_cases hk:e.kind=1∨e.kind=2∨e.kind=3∨e.kind=4∨e.kind=5
  ·have hfin:∀ (D:List Cl) (ims:List (Int×List Tm)) (bk:Bool) (r:Value) (g':PH),D=(if bP (aa l) e=0 then cQ (aa l) e else aa l)→(bP (aa l) e=0→ims=(if bkK e then aW (cQ (aa l) e) else aa l).map fun c=>(c.id,wY (aa l) e c.id))→(bP (aa l) e=0→bk=bkK e)→(bkK e=true→bP (aa l) e=0→aW (cQ (aa l) e)=aa (cQ (aa l) e)) →
     eV (aH (bP (aa l) e) D).1 (aH (bP (aa l) e) D).2 ims bk r g'→eV (gn l e).1 (gn l e).2 (CO l e) (bkK e) r g':=fun D ims bk r g' hD hi hb ht h7=>by
    have hout:aH (bP (aa l) e) D=gn l e:=by
     rw[hap,hD];by_cases h0:bP (aa l) e=0
     ·rw[zg1 h0]
     ·unfold aH; rw[zg1 h0,zg1 h0]
    rw[hout] at h7;have hc0:(gn l e).1=0→bP (aa l) e=0∧(gn l e).2=aa (cQ (aa l) e):=fun h0=>by
     rw[hap] at h0 ⊢;unfold aH at h0 ⊢;split at h0
     ·rename_i hh; exact absurd h0 hh
     ·rename_i hh;rw[zf9 hh];split at h0
      ·rename_i hh2; exact absurd h0 hh2
      ·rename_i hh2; rw[zf9 hh2]; exact⟨Decidable.not_not.1 hh,I⟩
    refine h7.congr (fun h0=>?_) fun h0=>hb (hc0 h0).1;obtain ⟨q1,q2⟩:=hc0 h0;rw[hi q1];unfold CO;rw[q2];cases hbk:bkK e with
    | false=>rfl
    | true=>rw[zg1 rfl,zg1 rfl,ht hbk q1]
   have hDf:a8 (if bP (aa l) e=0 then cQ (aa l) e else aa l):=by
    obtain ⟨fv,B,h1,h2,h3⟩:=wD hA e hes oM hk;split
    ·rename_i h0
     rcases hk with hk | hk | hk | hk | hk <;> unfold cQ <;> simp only[hk] <;> simp only[Int.reduceEq,if_true,if_false]
     ·have hl:=hA.few;refine⟨by rw[ze5,ze7]; omega,fun c hc=>?_⟩
      rcases zf3.1 hc with hc | hc
      ·exact hAf.2 c hc
      ·simp at hc; subst hc; exact hes
     ·exact fj hAf _
     ·have h0':a6 (aa l) e=0:=by unfold bP at h0; simp only[hk] at h0; simpa using h0
      exact (wh hA e h0').fits<|pM hA e h0'
     ·exact (wJ _ e).fits<|qu hAf e
     ·exact fj hAf _
    ·exact hAf
   rcases hk with hk | hk | hk | hk | hk
   ·have hcd:bP (aa l) e=fl (aa l) e:=by unfold bP; rw[zg1 hk]
    have hck:cQ (aa l) e=aa l++[⟨e.cell,e.dim,e.sides⟩]:=by unfold cQ; rw[zg1 hk]
    have h:=fF E g s v ev l e (bP (aa l) e) (if bP (aa l) e=0 then cQ (aa l) e else aa l) ((aW<|aa l).map e6) false hv hf he hr hDf (.inl hk)
     (fun _ E g s v ev hv he=>by rw[hck]; exact pz E g s v ev (aa l) e hv hAf he hes (bP (aa l) e) (by rw[hcd,hA.findC]; rfl))
     (fun h=>by omega) (fun h=>by omega) (fun h=>by omega) (fun h=>by omega)
    refine h.mono fun r g' s' ⟨h5,h6,h7⟩=>⟨h5,h6,hfin _ _ _ _ _ I (fun _=>?_) (fun _=>?_) (fun hb=>?_) h7⟩
    ·have hb:bkK e=false:=by unfold bkK; rw[hk]; rfl
     rw[hb,hA.tab];refine zc8 fun c _=>?_;unfold wY;rw[zf9 oM,zf9 oM,zf9 oM];rfl
    ·unfold bkK; rw[hk]; rfl
    ·unfold bkK at hb; rw[hk] at hb; cases hb
   ·have hcd:bP (aa l) e=iD (aa l) e:=by unfold bP; rw[zf9 oM,zg1 hk]
    have hck:cQ (aa l) e=de (aa l) [e.cell]:=by unfold cQ; rw[zf9 oM,zg1 hk]
    have h:=fF E g s v ev l e (bP (aa l) e) (if bP (aa l) e=0 then cQ (aa l) e else aa l) ((aW<|de (aa l) [e.cell]).map e6) (decide (bP (aa l) e=0)) hv hf he hr hDf (.inr<|.inl hk)
     (fun h=>by omega)
     (fun _ E g s v ev hv he=>by rw[hck]; exact py E g s v ev (aa l) e hv hAf he (bP (aa l) e) (by rw[hcd,hA.findC]; rfl))
     (fun h=>by omega) (fun h=>by omega) (fun h=>by omega)
    have hb:bkK e=true:=by unfold bkK; rw[hk]; rfl
    refine h.mono fun r g' s' ⟨h5,h6,h7⟩=>⟨h5,h6,hfin _ _ _ _ _ I (fun _=>?_) (fun h0=>?_) (fun hb h0=>?_) h7⟩
    ·rw[hb,zg1 rfl,hck];refine zc8 fun c _=>?_;unfold wY;rw[zf9 oM,zf9 oM,zf9 oM];rfl
    ·rw[hb]; exact zf8 h0
    ·rw[hck,(sV hA _).1,(sV hA _).2]
   ·have hcd:bP (aa l) e=br (aa l) e:=by unfold bP; rw[zf9 oM,zf9 oM,zg1 hk,tM hA]
    have hck:cQ (aa l) e=eC (aa l) e:=by unfold cQ; rw[zf9 oM,zf9 oM,zg1 hk]
    have h:=fF E g s v ev l e (bP (aa l) e) (if bP (aa l) e=0 then cQ (aa l) e else aa l) (((aW<|aa l).map e6).map<|cD e.cell<|cg e) false hv hf he hr hDf (.inr<|.inr<|.inl hk)
     (fun h=>by omega) (fun h=>by omega)
     (fun _ E g s v ev hv he=>by
      rw[hck,hcd];refine rR E g s v ev (aa l) e hv hAf he (by have:=hA.few; omega) (fun c hc=>hA.few64 hc) ?_;intro c hc hd;rw[hA.findC] at hc;exact hA.edge (eP hc).1 hd)
     (fun h=>by omega) (fun h=>by omega)
    have hb:bkK e=false:=by unfold bkK; rw[hk]; rfl
    refine h.mono fun r g' s' ⟨h5,h6,h7⟩=>⟨h5,h6,hfin _ _ _ _ _ I (fun _=>?_) (fun _=>hb.symm) (fun hb2=>by rw[hb] at hb2; cases hb2) h7⟩;rw[hb,tK hA];refine zc8 fun c _=>?_;unfold wY;rw[zg1 hk]
   ·have hcd:bP (aa l) e=cZ (aa l) e:=by unfold bP; rw[zf9 oM,zf9 oM,zf9 oM,zg1 hk,mL hA]
    have hck:cQ (aa l) e=fp (aa l) e:=by unfold cQ; rw[zf9 oM,zf9 oM,zf9 oM,zg1 hk]
    have h:=fF E g s v ev l e (bP (aa l) e) (if bP (aa l) e=0 then cQ (aa l) e else aa l) (eU e.pairs<|(aW<|aa l).map e6) false hv hf he hr hDf (.inr<|.inr<|.inr<|.inl hk)
     (fun h=>by omega) (fun h=>by omega) (fun h=>by omega)
     (fun _ E g s v ev hv he=>by
      rw[hck,hcd];refine ng E g s v ev (aa l) e hv hAf he hpl ?_;intro id;unfold iI;rw[hA.findC]
      rcases hA.getD id with h1 | h1
      ·rw[h1]; decide
      ·exact hAf.2 _ h1)
     (fun h=>by omega)
    have hb:bkK e=false:=by unfold bkK; rw[hk]; rfl
    refine h.mono fun r g' s' ⟨h5,h6,h7⟩=>⟨h5,h6,hfin _ _ _ _ _ I (fun h0=>?_) (fun _=>hb.symm) (fun hb2=>by rw[hb] at hb2; cases hb2) h7⟩;rw[hcd,mL hA] at h0;rw[hb,t6 hA e<|Aw h0];refine zc8 fun c _=>?_;unfold wY;rw[zf9 oM,zg1 hk]
   ·have hcd:bP (aa l) e=cl (aa l) e:=by unfold bP; rw[zf9 oM,zf9 oM,zf9 oM,zf9 oM,zg1 hk,qC hA]
    have hck:cQ (aa l) e=de (aa l) [e.cell,e.other]:=by unfold cQ; rw[zf9 oM,zf9 oM,zf9 oM,zf9 oM]
    have hgs:((findC (aa l) e.other).getD bg).sides=be (aa l) e:=by rw[hA.findC]; rfl
    have h:=fF E g s v ev l e (bP (aa l) e) (if bP (aa l) e=0 then cQ (aa l) e else aa l) ((((aW<|aa l).map e6).map<|cD e.cell<|df (aa l) e).map<|cD e.other []) false hv hf he hr hDf (.inr<|.inr<|.inr<|.inr hk)
     (fun h=>by omega) (fun h=>by omega) (fun h=>by omega) (fun h=>by omega)
     (fun _ E g s v ev hv he=>by
      rw[hck,hcd];refine nh E g s v ev (aa l) e hv hAf he ?_ ?_
      ·rw[hgs]; exact oG hA e
      ·rw[hgs]; exact jP hA e)
    have hb:bkK e=false:=by unfold bkK; rw[hk]; rfl
    refine h.mono fun r g' s' ⟨h5,h6,h7⟩=>⟨h5,h6,hfin _ _ _ _ _ I (fun h0=>?_) (fun _=>hb.symm) (fun hb2=>by rw[hb] at hb2; cases hb2) h7⟩;rw[hcd,qC hA] at h0;have ha:ah (aa l) e.cell=[e.other]:=by
     unfold dH at h0;split at h0
     ·split at h0
      ·rename_i h; exact h.1
      ·cases h0
     ·cases h0
    rw[hb,x6 hA e ha];refine zc8 fun c _=>?_;unfold wY;rw[zf9 oM,zf9 oM,zg1 hk]
  ·have hc1:=qD (A:=aa l) hk;have hout:gn l e=(1,[]):=by rw[hap,hc1]; rfl
   rw[hout];exact rS E g s v ev l e _ _ hv hf he hr oM oM oM oM oM
 ·have hout:gn l e=(1,[]):=zf9 hr;rw[hout];exact tV E g s v ev l e _ _ hv hf he hr
def hiC (l:List Cl):Int:=l.foldl (fun n c=>max n c.id) 0
theorem B5 {l:List Cl}{k:Nat}(hk:k<l.length):hiC (l.take<|k+1)=max (hiC<|l.take k) l[k].id:=by
 unfold hiC;rw[tS hk,zi8];rfl
theorem t7 (E:World)(g:PH)(s:Own)(v:Value)(l:List Cl)(hv:ak g v l)(hf:a8 l) :
  Ctr Tryz.prog E 38 #[.agg #[v]] g s (fun r g' s'=>s=s'∧g=g'∧r=vi (hiC l)):=by
 obtain ⟨rs,hrs,hall⟩:=hv;have hfl:=hf.1;have hlen:=hall.length;obtain ⟨p,c,rfl⟩:=za3 hrs;refine zb1 (args:=[.agg #[.slice p rs.length c]]) func38 I ntmps38 (bE I)<|rZ (bW (bO I) fun b1=>?_);refine aT I<|rZ<|aT I<|sQ<|rZ<|aT I<|bK<|SC.loop (ι:=Nat) (fun k=>[(1,pp b1 0),(3,vi<|hiC<|l.take k),(4,vi k)]) (fun _=>g) (fun _=>pt b1 (.cells #[.slice p rs.length c] 29 (0,0))::s)
  (fun k=>k≤rs.length) (fun k=>rs.length - k) 0 sB rfl rfl (zf6 _) ?_
 rintro k hk;try dsimp only at hk ⊢
 refine sQ<|sW I<|lU (fA du I di I)<|lK (qL (v:=.slice p rs.length c) dU I<|cO 0 I I)<|lU (eN aF I)<|yL I<|tZ<|iP I (fun hlt=>?_) (fun hlt=>?_)
 ·have hkr:k<rs.length:=oM;have hkl:k<l.length:=oM;have hb1:=za5 hrs oM;have hcr:=hall.get (gE hkl)<|gE hkr;have hgx:rs[((k:Nat):Int).toNat]?=some rs[k]:=gE hkr;have hsucc:=B5 hkl;rw[← hcr.1] at hsucc;generalize rs[k]=x at *;exact kP<|tN<|sQ<|bK<|rG<|lM I<|lU (fA du I di I)<|lK (qL (v:=.slice p rs.length c) dU I<|cO 0 I I)<|lM I<|lU (iA aF au I I hb1 oM sL)<|lU (fC aw I zT3 I hb1)<|lK (aZ (e:=encCell) (o:=0) (u:=vi x.id) iT3 I (za6 hrs) hgx I)<|lU (SU.maxI I I)<|lA I<|nL<|bN<|tN<|rG<|lM I<|yD I<|lA I<|nL<|ST.again (k+1) ⟨I,(by rw[hsucc]; rfl),rfl,trivial⟩ rfl rfl oM oM
 ·have hkk:l.take k=l:=tL oM;rw[hkk];exact xI<|tX<|tX<|bX<|tN<|sW I<|aT I<|rE<|dR (s':=s) uR<|za7 (.inl I) results38 I ⟨I,I,I⟩
theorem ez (E:World)(g:PH)(s:Own)(a b:Int) :
  Ctr Tryz.prog E 39 #[vi a,vi b] g s (fun r g' s'=>s=s'∧g=g'∧r = .agg #[vi a,vi b]):=by
 refine zb1 (args:=[vi a,vi b]) func39 I ntmps39 (bE I)<|rZ (bW (aL zl4) fun b4=>?_);refine tZ<|sW I<|lM I<|lU (za2 I<|buildS56 _ _)<|oZ (sK 0 aB I I I I I sB)<|tZ<|rE<|ST.retCD 0 s (.inl I) results39 I dT aB I I (.cons _<|.refl _) ⟨I,I,I⟩
def iH (z0 z1:Side):Int:=if z0.sign<0 then z0.cell else z1.cell
def ph (z0 z1:Side):Int:=if z0.sign>0 then z0.cell else z1.cell
theorem dB (E:World)(g:PH)(s:Own)(ci cd:Int)(p:Option Addr)(c:Nat)(z0 z1:Side)(hs:SlA encSide g (.slice p 2 c) [z0,z1]) :
  Ctr Tryz.prog E 70 #[.agg #[vi ci,vi cd,.slice p 2 c]] g s (fun r g' s'=>s=s'∧g=g'∧r=vi (iH z0 z1)):=by
 have hb1:=za5 hs (by simp);have hg0:[z0,z1][((0:Nat):Int).toNat]?=some z0:=rfl;have hg1:[z0,z1][((1:Nat):Int).toNat]?=some z1:=rfl;refine zb1 (args:=[.agg #[vi ci,vi cd,.slice p 2 c]]) func70 I ntmps70 (bE I)<|rZ (bW (bO I) fun b1=>?_);refine aT I<|sQ<|rZ<|lU (fA aw I aO I)<|lK (qL (v:=.slice p 2 c) bh I<|cO 0 I I)<|lU (iA (i:=0) aI aB I I hb1 dC (show (0:Int)<((2:Nat):Int) by decide)) ?_;refine lU (fC co I zT3 I hb1)<|lK (aZ (e:=encSide) (o:=1) (u:=vi z0.sign) iT3 I (za6 hs) hg0 I)<|yL I<|tZ ?_;refine iP I (fun hz=>?_) (fun hz=>?_)
 ·have hst:iH z0 z1=z0.cell:=zg1 hz;rw[hst];refine rZ<|lU (fA aw I aO I)<|lK (qL (v:=.slice p 2 c) bh I<|cO 0 I I)<|lU (iA (i:=0) aI aB I I hb1 dC (show (0:Int)<((2:Nat):Int) by decide)) ?_;refine lU (fC co I zT3 I hb1)<|lK (aZ (e:=encSide) (o:=0) (u:=vi z0.cell) iT3 I (za6 hs) hg0 I)<|aT I<|rE<|tR<|dR (s':=s) uR ?_;exact za7 (.inl I) results70 I ⟨I,I,I⟩
 ·have hst:iH z0 z1=z1.cell:=zf9 hz;rw[hst];refine kP<|tN<|rZ<|lU (fA aw I aO I)<|lK (qL (v:=.slice p 2 c) bh I<|cO 0 I I)<|lU (iA (i:=1) aI aB I I hb1 dC (show (1:Int)<((2:Nat):Int) by decide)) ?_;refine lU (fC co I zT3 I hb1)<|lK (aZ (e:=encSide) (o:=0) (u:=vi z1.cell) iT3 I (za6 hs) hg1 I)<|aT I<|rE<|dR (s':=s) uR ?_;exact za7 (.inl I) results70 I ⟨I,I,I⟩
theorem fg (E:World)(g:PH)(s:Own)(ci cd:Int)(p:Option Addr)(c:Nat)(z0 z1:Side)(hs:SlA encSide g (.slice p 2 c) [z0,z1]) :
  Ctr Tryz.prog E 69 #[.agg #[vi ci,vi cd,.slice p 2 c]] g s (fun r g' s'=>s=s'∧g=g'∧r=vi (ph z0 z1)):=by
 have hb1:=za5 hs (by simp);have hg0:[z0,z1][((0:Nat):Int).toNat]?=some z0:=rfl;have hg1:[z0,z1][((1:Nat):Int).toNat]?=some z1:=rfl;refine zb1 (args:=[.agg #[vi ci,vi cd,.slice p 2 c]]) func69 I ntmps69 (bE I)<|rZ (bW (bO I) fun b1=>?_);refine aT I<|sQ<|rZ<|lU (fA aw I aO I)<|lK (qL (v:=.slice p 2 c) bh I<|cO 0 I I)<|lU (iA (i:=0) aI aB I I hb1 dC (show (0:Int)<((2:Nat):Int) by decide)) ?_;refine lU (fC co I zT3 I hb1)<|lK (aZ (e:=encSide) (o:=1) (u:=vi z0.sign) iT3 I (za6 hs) hg0 I)<|lU (gR I I)<|tZ ?_;refine iP I (fun hz=>?_) (fun hz=>?_)
 ·have hst:ph z0 z1=z0.cell:=zg1 hz;rw[hst];refine rZ<|lU (fA aw I aO I)<|lK (qL (v:=.slice p 2 c) bh I<|cO 0 I I)<|lU (iA (i:=0) aI aB I I hb1 dC (show (0:Int)<((2:Nat):Int) by decide)) ?_;refine lU (fC co I zT3 I hb1)<|lK (aZ (e:=encSide) (o:=0) (u:=vi z0.cell) iT3 I (za6 hs) hg0 I)<|aT I<|rE<|tR<|dR (s':=s) uR ?_;exact za7 (.inl I) results69 I ⟨I,I,I⟩
 ·have hst:ph z0 z1=z1.cell:=zf9 hz;rw[hst];refine kP<|tN<|rZ<|lU (fA aw I aO I)<|lK (qL (v:=.slice p 2 c) bh I<|cO 0 I I)<|lU (iA (i:=1) aI aB I I hb1 dC (show (1:Int)<((2:Nat):Int) by decide)) ?_;refine lU (fC co I zT3 I hb1)<|lK (aZ (e:=encSide) (o:=0) (u:=vi z1.cell) iT3 I (za6 hs) hg1 I)<|aT I<|rE<|dR (s':=s) uR ?_;exact za7 (.inl I) results69 I ⟨I,I,I⟩
theorem DB (l:List Int):decide ((l.length:Int)=0)=decide (l=[]):=by
 rw[Bool.eq_iff_iff,zj6,zj6];exact⟨fun h=>zf4 oM,fun h=>by rw[h]; rfl⟩
def vA (l:List Cl)(id:Int):Bool:=match ah l id with
 | [m]=>decide (ah l m=[])
 | _=>false
def CW (C:List Cl)(p:Pr):Prop:=ah C p.1=[p.2]∧ah C p.2=[]
theorem Tryz.buildZ44 (w:World):(Instr.build 44 #[]).run Tryz.prog w = .ok (.agg #[vi 0,vi 0]) w:=by
 simp[Instr.build,Instr.fill];rfl
theorem vC (E:World)(g:PH)(s:Own)(v:Value)(l:List Cl)(n:Int)(hv:ak g v l)(hf:a8 l) :
  Ctr Tryz.prog E 41 #[.agg #[v],vi n] g s (fun r g' s'=>s=s'∧Le g g'∧∃ (p:Pr) (ok:Bool),r = .tuple #[.agg #[vi p.1,vi p.2],vb ok]∧(ok=true→CW l p)):=by
 have hv0:=hv;obtain ⟨rs,hrs,hall⟩:=hv;have hfl:=hf.1;have hlen:=hall.length;obtain ⟨p,c,rfl⟩:=za3 hrs;refine zb1 (args:=[.agg #[.slice p rs.length c],vi n]) func41 I ntmps41 (bE I)<|rZ (bW (bO I) fun b2=>?_);refine bW (aL zl5) fun b4=>aT I<|rZ<|aT I<|sQ<|rZ<|aT I<|bK<|zb5 44 2<|SC.loop (ι:=Nat×PH×Value×List Pr) (fun i=>[(1,vi n),(2,pp b2 0),(4,pp b4 0),(6,i.2.2.1),(7,vi i.1)]) (fun i=>i.2.1) (fun i=>rowA ax 44 i.2.2.1 i.2.2.2::pt b4 (.cells #[vi 0,vi 0] 44 (0,0))::pt b2 (.cells #[.slice p rs.length c] 29 (0,0))::s)
  (fun i=>i.1≤rs.length∧Le g i.2.1∧i.2.2.2.length≤i.1∧∀ q∈i.2.2.2,CW l q) (fun i=>rs.length - i.1) (0,g,.slice none 0 0,[]) sB rfl rfl ⟨zf6 _,zb8 _,zf6 _,fun q hq=>by cases hq⟩ ?_
 rintro ⟨k,g1,ov,acc⟩ ⟨hk,hle1,hal,hfr⟩;dsimp only at hk hle1 hal hfr ⊢;refine sQ<|sW I<|lU (fA du I di I)<|lK (qL (v:=.slice p rs.length c) dU I<|cO 2 I I)<|lU (eN aF I)<|yL I<|tZ<|iP I (fun hlt=>?_) (fun hlt=>?_)
 ·have hkr:k<rs.length:=oM;have hb1:=za5 hrs oM;have hrs1:=za4 hrs hle1;have hv1:=hv0.mono hle1;have hgx:rs[((k:Nat):Int).toNat]?=some rs[k]:=gE hkr;generalize rs[k]=x at *;refine kP<|tN<|sQ<|bK<|rZ<|lU (fA du I di I)<|lK (qL (v:=.slice p rs.length c) dU I<|cO 2 I I)<|lM I<|lU (iA aF au I I hb1 oM sL)<|lU (fC aw I zT3 I hb1)<|lK (aZ (e:=encCell) (o:=0) (u:=vi x.id) iT3 I (za6 hrs1) hgx I)<|aT I<|rZ<|lK (qV 2 ar ag I I I)<|lM I<|lW (SO.call call54 I<|cj E g1 _ _ l x.id hv1 hf) ?_;rintro _ g2 _ ⟨rfl,hle2,ha2⟩;obtain ⟨q2,d2,rfl⟩:=za3 ha2;have hv2:=hv1.mono hle2;refine aT I ?_;have hal2:(ah l x.id).length<1099511627776:=Nat.lt_of_le_of_lt (by unfold ah; rw[ze6]; exact zc5 _ _) (bL hf).1;refine SC.cut (ι:=PH) (fun _=>[(1,vi n),(2,pp b2 0),(4,pp b4 0),(6,ov),(7,vi k),(8,vi x.id),(9,.slice q2 (ah l x.id).length d2),(37,vb<|vA l x.id)]) (fun g'=>g') (fun _=>rowA ax 44 ov acc::pt b4 (.cells #[vi 0,vi 0] 44 (0,0))::pt b2 (.cells #[.slice p rs.length c] 29 (0,0))::s) (fun g'=>Le g2 g') ?_ ?_
  ·by_cases h1:(ah l x.id).length=1
   ·obtain ⟨m,hm⟩:∃ m,ah l x.id=[m]:=by
     match hq:ah l x.id,h1 with
     | [m],_=>exact⟨m,rfl⟩
    have hfb:vA l x.id=decide (ah l m=[]):=by unfold vA; rw[hm]
    have hb2:=za5 ha2 oM;have hg0:(ah l x.id)[((0:Nat):Int).toNat]?=some m:=by rw[hm]; rfl
    refine SC.drawX [] ze3 kR ?_;refine SX.u (i:=0) I kR (mV I) dC<|SX.u (i:=1) I kR (eN aG I) dC<|SX.u (i:=2) I kR (SU.eq (v':=vb true) (eQ I I)<|ze2 vb<|zf8 oM) dC<|SX.u (i:=3) I kR (mV I) dC<|SX.gq (i:=4) I kR (gT I I I dC) (qV 2 ar ag I I I) dC<|SX.gu (i:=5) I kR (gT I I I dC) (mV I) dC<|SX.gu (i:=6) I kR (gT I I I dC) (iA (i:=0) aG zT3 I I hb2 dC (show (0:Int)<(((ah l x.id).length:Nat):Int) by omega)) dC ?_;refine SX.gq (i:=7) I kR (gT I I I dC) (eB iT3 I (za6 ha2) hg0 I) dC ?_;refine zd6 8 kR ?_
    ·refine SB.go (i:=8) I (gT I I I dC) (SO.call call54 I<|cj E g2 _ _ l m hv2 hf) dC (.inr iR) ?_;rintro _ g3 _ ⟨rfl,hle3,ha3⟩;obtain ⟨q3,d3,rfl⟩:=za3 ha3;refine SX.gu (i:=9) I kR (gT I I I dC) (eN aG I) dC<|SX.gu (i:=10) I kR (gT I I I dC) (SU.eq (v':=vb<|decide (ah l m=[])) (eQ I I)<|ze2 vb<|DB _) dC<|SX.u (i:=11) I kR (wT I I) dC<|SX.nil kR ?_;exact za8 g3 ⟨I,I,I,I,I,I,I,(by rw[hfb]; rfl),trivial⟩ rfl rfl hle3
   ·have hfb:vA l x.id=false:=by
     unfold vA;split
     ·rename_i m hm; rw[hm] at h1; exact absurd I h1
     ·rfl
    refine SC.drawX [] ze3 kR ?_;refine SX.u (i:=0) I kR (mV I) dC<|SX.u (i:=1) I kR (eN aG I) dC<|SX.u (i:=2) I kR (SU.eq (v':=vb false) (eQ I I)<|ze2 vb<|zf7 oM) dC<|SX.u (i:=3) I kR (mV I) dC<|SX.off (i:=4) I kR (gZ I I I dC) dC<|SX.off (i:=5) I kR (gZ I I I dC) dC<|SX.off (i:=6) I kR (gZ I I I dC) dC<|SX.off (i:=7) I kR (gZ I I I dC) dC ?_;refine zd6 8 kR ?_
    ·refine SB.offo (i:=8) I (gZ I I I dC) dC ⟨by exact zb8 _,(by exact .refl _)⟩ ?_;refine SX.off (i:=9) I kR (gZ I I I dC) dC<|SX.off (i:=10) I kR (gZ I I I dC) dC<|SX.u (i:=11) I kR (wF I I) dC<|SX.nil kR ?_;exact za8 g2 ⟨I,I,I,I,I,I,I,(by rw[hfb]; rfl),trivial⟩ rfl rfl<|zb8 _
  rintro g3 hle3;try dsimp only at hle3 ⊢
  have hle13:=hle1.trans<|hle2.trans hle3;refine iQ I (fun hb=>?_) (fun hb=>?_)
  ·obtain ⟨m,hm,hm0⟩:∃ m,ah l x.id=[m]∧ah l m=[]:=by
    unfold vA at hb;split at hb
    ·rename_i m hm; exact⟨m,hm,zg3 hb⟩
    ·cases hb
   have hb2:=za5 ha2 (by rw[hm]; simp);have hg0:(ah l x.id)[((0:Nat):Int).toNat]?=some m:=by rw[hm]; rfl
   have hl1:(ah l x.id).length=1:=by rw[hm]; rfl
   refine rG (lM I (lM I (lM I (lU (iA (i:=0) aG zT3 I I hb2 dC (show (0:Int)<(((ah l x.id).length:Nat):Int) by omega)) ?_))));refine lK (eB iT3 I (za6 (za4 ha2 hle3)) hg0 I) (lU (za2 I (build44 _ _)) (lW (bS sty31 I I I (ab ⟨I,trivial⟩) dC) ?_));rintro _ _ _ ⟨b44,rfl,rfl,rfl⟩;refine lW (aP (e:=ax) (l:=acc) 0 (x.id,m) sty31 I I I I I oM oM) ?_;rintro ov' _ _ ⟨rfl,rfl⟩;refine lA I (nL (bN (tN (rG (lM I (yD I (lA I (nL ?_))))))));exact ST.again (k+1,g3,ov',acc++[(x.id,m)]) sB I I ⟨by dsimp only; omega,hle13,by dsimp only; rw[ze5,ze7]; omega,fun q hq=>by
    rcases zf3.1 hq with hq | hq
    ·exact hfr q hq
    ·simp at hq; subst hq; exact⟨hm,hm0⟩⟩ (by dsimp only; omega)
  ·exact kP<|bN<|tN<|rG<|lM I<|yD I<|lA I<|nL<|ST.again (k+1,g3,ov,acc) sB I I ⟨by dsimp only; omega,hle13,by dsimp only; omega,hfr⟩ (by dsimp only; omega)
 ·refine xI<|tX<|tX<|bX<|tN<|sQ<|rZ<|zd3 fun ⟨w0,hw0⟩=>?_;obtain ⟨q0,d0,rfl⟩:=aj (e:=ax) (l:=acc) (i:=0) hw0 rfl;have hbq:0<acc.length→based (.slice q0 acc.length d0)=true:=fun h=>(by obtain ⟨b0,c0,he⟩:=aM (e:=ax) (l:=acc) (i:=0) hw0 rfl h; rw[he]; rfl);clear hw0 w0;refine lM I<|lU (eN cC I)<|yE I<|tZ ?_;refine iP I (fun h0=>?_) (fun h0=>?_)
  ·exact rZ<|lU (za2 I<|buildZ44)<|oZ (sK 1 bM I I I I I sB)<|aT I<|rE<|tR<|ST.retCD1 1 s (.inl I) results41 I I kI bM I I uR ⟨I,hle1,(0,0),false,I,fun h=>by cases h⟩
  ·obtain ⟨hm1,hm2⟩:=eO n acc.length oM oM;have hb:=hbq oM;have hmm:=gM hm2;have hgm:acc[(fu n acc.length).toNat]?=some acc[(fu n acc.length).toNat]:=gE hm2;have hfm:=hfr _ hmm;generalize acc[(fu n acc.length).toNat]=y at *;refine kP<|tN<|sW I<|lM I<|lM I<|lU (eN cC I)<|lW (SO.call call19 I<|ek E g1 _ n acc.length oM) ?_;rintro _ _ _ ⟨rfl,rfl,rfl⟩;rw[hm1];exact lU (iA cC bM I I hb oM sL)<|lK (eA kI bM I (zb6 0 I) hgm)<|oZ (sK 1 bM I I I I I sB)<|aT I<|rE<|ST.retCD1 1 s (.inl I) results41 I I kI bM I I uR ⟨I,hle1,y,true,I,fun _=>hfm⟩
set_option maxHeartbeats 8000000
theorem Tryz.sty113:STy Tryz.prog 113 37 1 24 (.slice none 0 0):=⟨underlying113,⟨t37,by kernel_rfl,by kernel_rfl,by kernel_rfl,by kernel_rfl⟩,rfl,by decide⟩
def o7 (l:List Cl)(id:Int)(z0 z1:Side):Prop:=∃ c,findC l id=some c∧c.id=id∧c.dim=1∧c.sides=[z0,z1]
def jy (l:List Cl)(S:List Side):Prop :=
 (∃ a b z0 z1,a≠b∧o7 l a z0 z1∧o7 l b z0 z1∧S=[⟨a,1⟩,⟨b,-1⟩]) ∨
 (∃ a b d x0 x1 y0 y1 z0 z1,a≠b∧o7 l a x0 x1∧o7 l b y0 y1∧o7 l d z0 z1∧ph x0 x1=iH y0 y1∧iH z0 z1=iH x0 x1∧ph z0 z1=ph y0 y1∧ph x0 x1≠ph z0 z1∧S=[⟨a,1⟩,⟨b,1⟩,⟨d,-1⟩])
def nu (l:List Cl)(g:PH)(acc:List Sv):Prop:=∀ x∈acc,∃ S,SlA encSide g (.slice x.p x.n x.c) S∧jy l S
theorem nu.mono {l:List Cl}{g g':PH}{acc:List Sv}(hl:Le g g')(h:nu l g acc):nu l g' acc:=fun x hx=>by
 obtain ⟨S,h1,h2⟩:=h x hx;exact⟨S,za4 h1 hl,h2⟩
theorem nu.snoc {l:List Cl}{g:PH}{acc:List Sv}{p:Option Addr}{n c:Nat}{S:List Side}(h:nu l g acc)(h1:SlA encSide g (.slice p n c) S)(h2:jy l S):nu l g (acc++[⟨p,n,c⟩]):=fun x hx=>by
 rcases zf3.1 hx with hx | hx
 ·exact h x hx
 ·simp at hx;subst hx;exact⟨S,h1,h2⟩
theorem lD {l:List Cl}{id:Int}{z0 z1:Side}(h:o7 l id z0 z1){g:PH}{x:Rc}(hc:ay g ((findC l id).getD bg) x):∃ p c,x=⟨id,1,⟨p,2,c⟩⟩∧SlA encSide g (.slice p 2 c) [z0,z1]:=by
 obtain ⟨c,h1,h2,h3,h4⟩:=h;rw[h1] at hc;obtain ⟨xi,xd,xp,xn,xc⟩:=x;obtain ⟨e1,e2,e3⟩:=hc;dsimp only[Option.getD_some] at e1 e2 e3;rw[h4] at e3;have h5:xn=2:=zc1 e3;subst h5;subst e1 e2;rw[h2,h3];exact⟨xp,xc,I,e3⟩
theorem mE (E:World)(g:PH)(s:Own)(v:Value)(l:List Cl)(n:Int)(hv:ak g v l)(hf:a8 l)(hE:∀ id∈eh l 1,∃ z0 z1,o7 l id z0 z1)(hI:(eh l 1).length≤4000) :
  Ctr Tryz.prog E 40 #[.agg #[v],vi n] g s (fun r g' s'=>s=s'∧Le g g'∧∃ S,SlA encSide g' r S∧(S=[]∨jy l S)):=by
 have hIn:∀ i j (hi:i<(eh l 1).length) (hj:j<(eh l 1).length),i<j→(eh l 1)[i]≠(eh l 1)[j]:=fun i j hi hj hij=>by
  have hn:(eh l 1).Nodup:=(List.filter_sublist.map Cl.id).nodup<|jV l;intro he;have h1:=(List.getElem_inj hn).1 he;omega
 obtain ⟨p,c,rfl⟩:=hv.form;refine zb1 (args:=[.agg #[.slice p l.length c],vi n]) func40 I ntmps40 (bE I)<|rZ (bW (bO I) fun b2=>?_);refine aT I<|rZ<|lK (qV 0 ar ag I I I)<|lW (SO.call call18 I<|ja E g _ _ l 1 hv hf) ?_;rintro _ g1 _ ⟨rfl,hle1,hi1⟩;generalize eh l 1=idl0 at *;obtain ⟨q,d,rfl⟩:=za3 hi1;refine aT I<|rZ<|aT I<|sQ<|rZ<|aT I<|bK ?_;have hv1:=hv.mono hle1;refine zb5 37 1<|SC.loop (ι:=Nat×PH×Value×List Sv) (fun i=>[(1,vi n),(2,pp b2 0),(5,.slice q idl0.length d),(6,i.2.2.1),(7,vi i.1)]) (fun i=>i.2.1) (fun i=>rowA cR 37 i.2.2.1 i.2.2.2::pt b2 (.cells #[.slice p l.length c] 29 (0,0))::s)
  (fun i=>i.1≤idl0.length∧Le g1 i.2.1∧i.2.2.2.length≤16004000 * i.1∧nu l i.2.1 i.2.2.2) (fun i=>idl0.length - i.1) (0,g1,.slice none 0 0,[]) sB rfl rfl ⟨zf6 _,zb8 _,zf6 _,fun q hq=>by cases hq⟩ ?_
 rintro ⟨i,g2,ov,acc⟩ ⟨hi,hle2,hal,hac⟩;dsimp only at hi hle2 hal hac ⊢;refine sQ<|sW I<|lM I<|lU (eN aG I)<|yL I<|tZ<|iP I (fun hlt=>?_) (fun hlt=>?_)
 ·have hil:i<idl0.length:=oM;have hbI:=za5 hi1 oM;have hi2:=za4 hi1 hle2;have hv2:=hv1.mono hle2;have hgi:idl0[((i:Nat):Int).toNat]?=some idl0[i]:=gE hil;obtain ⟨x0,x1,hEx⟩:=hE _<|gM hil;have hIn1:=fun j hj hij=>hIn i j hil hj hij;generalize idl0[i]=ia at *;refine kP<|tN<|sQ<|bK<|SC.cut (ι:=Nat×PH×Option Addr×Nat) (fun i'=>[(1,vi n),(2,pp b2 0),(5,.slice q idl0.length d),(6,ov),(7,vi i),(8,pp i'.1 0)]) (fun i'=>i'.2.1)
   (fun i'=>pt i'.1 (.cells #[vi ia,vi 1,.slice i'.2.2.1 2 i'.2.2.2] 54 (0,0))::rowA cR 37 ov acc::pt b2 (.cells #[.slice p l.length c] 29 (0,0))::s) (fun i'=>Le g2 i'.2.1∧SlA encSide i'.2.1 (.slice i'.2.2.1 2 i'.2.2.2) [x0,x1]) ?_ ?_
  ·refine SC.drawX [10] ze3 kR ?_;refine SX.q (i:=0) I kR (qV 1 ar ag I I I) dC<|SX.u (i:=1) I kR (mV I) dC<|SX.u (i:=2) I kR (mV I) dC<|SX.u (i:=3) I kR (iA aG zT3 I I hbI oM sL) dC<|SX.q (i:=4) I kR (eB (u:=vi ia) iT3 I (za6 hi2) hgi I) dC ?_
   repeat' (first
    | (refine SB.o (i:=5) I (SO.call call68 I<|aR E g2 _ _ l ia hv2 hf) dC (.inr iR) ?_; rintro _ g3 _ ⟨rfl,hle3,xr,rfl,hcr⟩; obtain ⟨xp,xc,rfl,hxs⟩:=lD hEx hcr; refine SX.u (i:=6) I kD (mV I) dC ?_; refine SX.u (i:=7) I kD (xT I I) dC ?_; refine SX.u (i:=8) I kD (xT I I) dC ?_)
    | (refine SB.o (i:=5) I (SO.call call68 I<|aR E g2 _ _ l ia hv2 hf) dC (.inr iR) ?_; rintro _ g3 _ ⟨rfl,hle3,xr,rfl,hcr⟩; obtain ⟨xp,xc,rfl,hxs⟩:=lD hEx hcr; refine SX.u (i:=6) I kD (mV I) dC ?_; refine SX.u (i:=7) I kD (xT I I) dC ?_; refine SX.u (i:=8) I kD (xT I I) dC ?_)
    | (refine SB.o (i:=9) I (aL zl3) dC (.inr iR) ?_; rintro _ _ _ ⟨b8,rfl,rfl,rfl⟩)
    | (refine SB.o (i:=9) I (aL zl3) dC (.inr iR) ?_; rintro _ _ _ ⟨b8,rfl,rfl,rfl⟩)
    | (refine SB.on (i:=10) I (sK 0 au I I I I I sB) (.inl dC) ?_; rintro _ _ _ ⟨rfl,rfl⟩; refine SX.u (i:=11) I kD (aS I) dC ?_)
    | refine zd7 5 9 kD ?_ ?_
    | refine zd6 9 kD ?_
    | refine zd6 10 kD ?_
    | refine zd6 5 kD ?_
    | (refine SX.nil kD ?_; exact za8 (b8,g3,xp,xc) sB I I ⟨hle3,hxs⟩))
  rintro ⟨b8,g3,xp,xc⟩ ⟨hle3,hxs3⟩;dsimp only at hle3 hxs3 ⊢;have hac3:=hac.mono hle3;have hlt':i+1≤idl0.length:=oM;have hL1:acc.length≤16004000 * i+4001 * (i+1):=oM;refine sW I<|yD I<|aT I<|bK<|SC.loop (ι:=Nat×PH×Value×List Sv) (fun j=>[(1,vi n),(2,pp b2 0),(5,.slice q idl0.length d),(6,j.2.2.1),(7,vi i),(8,pp b8 0),(10,vi j.1)]) (fun j=>j.2.1)
   (fun j=>pt b8 (.cells #[vi ia,vi 1,.slice xp 2 xc] 54 (0,0))::rowA cR 37 j.2.2.1 j.2.2.2::pt b2 (.cells #[.slice p l.length c] 29 (0,0))::s)
   (fun j=>i<j.1∧j.1≤idl0.length∧Le g3 j.2.1∧j.2.2.2.length≤16004000 * i+4001 * j.1∧nu l j.2.1 j.2.2.2) (fun j=>idl0.length - j.1) (i+1,g3,ov,acc) ⟨rfl,rfl,rfl,rfl,rfl,rfl,aU (by dsimp only; omega),trivial⟩ rfl rfl ⟨Nat.lt_succ_self i,hlt',zb8 _,hL1,hac3⟩ ?_
  rintro ⟨j,g4,ov4,acc4⟩ ⟨hij,hj,hle4,hal4,hac4⟩;dsimp only at hij hj hle4 hal4 hac4 ⊢;refine sQ<|sW I<|lM I<|lU (eN aG I)<|yL I<|tZ<|iP I (fun hlt2=>?_) (fun hlt2=>?_)
  ·have hjl:j<idl0.length:=oM;have hi4:=za4 hi2<|hle3.trans hle4;have hv4:=hv2.mono<|hle3.trans hle4;have hxs4:=za4 hxs3 hle4;have hgj:idl0[((j:Nat):Int).toNat]?=some idl0[j]:=gE hjl;obtain ⟨y0,y1,hEy⟩:=hE _<|gM hjl;have hne:=hIn1 j hjl hij;generalize idl0[j]=ib at *;refine kP<|tN<|sQ<|bK<|SC.cut (ι:=Nat×PH×Option Addr×Nat) (fun i'=>[(1,vi n),(2,pp b2 0),(5,.slice q idl0.length d),(6,ov4),(7,vi i),(8,pp b8 0),(10,vi j),(11,pp i'.1 0)]) (fun i'=>i'.2.1)
    (fun i'=>pt i'.1 (.cells #[vi ib,vi 1,.slice i'.2.2.1 2 i'.2.2.2] 54 (0,0))::pt b8 (.cells #[vi ia,vi 1,.slice xp 2 xc] 54 (0,0))::rowA cR 37 ov4 acc4::pt b2 (.cells #[.slice p l.length c] 29 (0,0))::s) (fun i'=>Le g4 i'.2.1∧SlA encSide i'.2.1 (.slice i'.2.2.1 2 i'.2.2.2) [y0,y1]) ?_ ?_
   ·refine SC.drawX [10] ze3 kR ?_;refine SX.q (i:=0) I kR (qV 2 ar ag I I I) dC<|SX.u (i:=1) I kR (mV I) dC<|SX.u (i:=2) I kR (mV I) dC<|SX.u (i:=3) I kR (iA aG zT3 I I hbI oM sL) dC<|SX.q (i:=4) I kR (eB (u:=vi ib) iT3 I (za6 hi4) hgj I) dC ?_
    repeat' (first
     | (refine SB.o (i:=5) I (SO.call call68 I<|aR E g4 _ _ l ib hv4 hf) dC (.inr iR) ?_; rintro _ g5 _ ⟨rfl,hle5,yr,rfl,hcr⟩; obtain ⟨yp,yc,rfl,hys⟩:=lD hEy hcr; refine SX.u (i:=6) I kD (mV I) dC ?_; refine SX.u (i:=7) I kD (xT I I) dC ?_; refine SX.u (i:=8) I kD (xT I I) dC ?_)
     | (refine SB.o (i:=5) I (SO.call call68 I<|aR E g4 _ _ l ib hv4 hf) dC (.inr iR) ?_; rintro _ g5 _ ⟨rfl,hle5,yr,rfl,hcr⟩; obtain ⟨yp,yc,rfl,hys⟩:=lD hEy hcr; refine SX.u (i:=6) I kD (mV I) dC ?_; refine SX.u (i:=7) I kD (xT I I) dC ?_; refine SX.u (i:=8) I kD (xT I I) dC ?_)
     | (refine SB.o (i:=9) I (aL zl3) dC (.inr iR) ?_; rintro _ _ _ ⟨b11,rfl,rfl,rfl⟩)
     | (refine SB.o (i:=9) I (aL zl3) dC (.inr iR) ?_; rintro _ _ _ ⟨b11,rfl,rfl,rfl⟩)
     | (refine SB.on (i:=10) I (sK 0 au I I I I I sB) (.inl dC) ?_; rintro _ _ _ ⟨rfl,rfl⟩; refine SX.u (i:=11) I kD (aS I) dC ?_)
     | refine zd7 5 9 kD ?_ ?_
     | refine zd6 9 kD ?_
     | refine zd6 10 kD ?_
     | refine zd6 5 kD ?_
     | (refine SX.nil kD ?_; exact za8 (b11,g5,yp,yc) sB I I ⟨hle5,hys⟩))
   rintro ⟨b11,g5,yp,yc⟩ ⟨hle5,hys5⟩;dsimp only at hle5 hys5 ⊢;have hac5:=hac4.mono hle5;have hL2:acc4.length≤16004000 * i+4001 * j+1:=oM;have hL3:(acc4++[(⟨some ⟨0,0,none⟩,2,2⟩:Sv)]).length≤16004000 * i+4001 * j+1:=by rw[ze5,ze7]; omega
   have hxs5:=za4 hxs4 hle5;have hbx:=za5 hxs5 (by simp);have hby:=za5 hys5 (by simp);have hg0:[x0,x1][((0:Nat):Int).toNat]?=some x0:=rfl;have hg1:[x0,x1][((1:Nat):Int).toNat]?=some x1:=rfl;have hh0:[y0,y1][((0:Nat):Int).toNat]?=some y0:=rfl;have hh1:[y0,y1][((1:Nat):Int).toNat]?=some y1:=rfl;refine SC.cut (ι:=PH×Value×List Sv) (fun i'=>[(1,vi n),(2,pp b2 0),(5,.slice q idl0.length d),(6,i'.2.1),(7,vi i),(8,pp b8 0),(10,vi j),(11,pp b11 0)]) (fun i'=>i'.1)
    (fun i'=>pt b11 (.cells #[vi ib,vi 1,.slice yp 2 yc] 54 (0,0))::pt b8 (.cells #[vi ia,vi 1,.slice xp 2 xc] 54 (0,0))::rowA cR 37 i'.2.1 i'.2.2::pt b2 (.cells #[.slice p l.length c] 29 (0,0))::s) (fun i'=>Le g5 i'.1∧i'.2.2.length≤16004000 * i+4001 * j+1∧nu l i'.1 i'.2.2) ?_ ?_
   ·refine SC.cutB 69 (decide (x0=y0)&&decide (x1=y1)) ?_ ?_
    ·refine dW [] [(0,2),(1,1),(2,2),(3,1),(4,2),(5,1),(6,2),(7,1),(8,2),(9,2),(10,2),(11,1),(12,2),(13,1),(14,2),(15,1),(16,2),(17,1),(18,2),(19,2)] ze3 kR<|pU I (fA aw I aO I)<|pK I (qL (v:=.slice xp 2 xc) bh I<|cO 1 I I)<|pU I (iA (i:=0) aI aB I I hbx dC (show (0:Int)<((2:Nat):Int) by decide)) ?_;refine pK I (eA dT aB I (za6 hxs5) hg0)<|pU I (fA aw I aO I)<|pK I (qL (v:=.slice yp 2 yc) bh I<|cO 0 I I)<|pU I (iA (i:=0) aI aB I I hby dC (show (0:Int)<((2:Nat):Int) by decide)) ?_;refine pK I (eA dT aB I (za6 hys5) hh0)<|pU I (SU.eqlSide x0 y0 I I)<|yM I ?_;refine SP.split ?_ ?_
     ·intro h59;refine zb2 I (gT I I I dC) (fA aw I aO I) dC<|SP.gq I (gT I I I dC) (qL (v:=.slice xp 2 xc) bh I<|cO 1 I I) dC<|zb2 I (gT I I I dC) (iA (i:=1) aI aB I I hbx dC (show (1:Int)<((2:Nat):Int) by decide)) dC ?_;refine SP.gq I (gT I I I dC) (eA dT aB I (za6 hxs5) hg1) dC<|zb2 I (gT I I I dC) (fA aw I aO I) dC<|SP.gq I (gT I I I dC) (qL (v:=.slice yp 2 yc) bh I<|cO 0 I I) dC<|zb2 I (gT I I I dC) (iA (i:=1) aI aB I I hby dC (show (1:Int)<((2:Nat):Int) by decide)) dC ?_;refine SP.gq I (gT I I I dC) (eA dT aB I (za6 hys5) hh1) dC<|zb2 I (gT I I I dC) (SU.eqlSide x1 y1 I I) dC<|pU I (wT I I)<|pN ?_;exact za9 (by simp_all[a7]) mI
     ·intro h59;exact yG I<|yI I<|yG I<|yI I<|yG I<|yI I<|yG I<|yI I<|yG I<|pU I (wF I I)<|pN<|za9 (by simp_all[a7]) mI
    refine iQ I (fun hq=>?_) (fun hq=>?_)
    ·rw[zj3,zj6,zj6] at hq;obtain ⟨hq0,hq1⟩:=hq;refine dW [9] [(0,2),(1,2),(2,1),(4,2),(5,1),(3,0),(6,0),(7,0),(8,0),(9,0),(10,2)] ze3 kR<|yM I<|pU I (fA aw I zT3 I)<|pK I (qL (v:=vi ia) iT3 I<|cO 1 I I)<|pU I (fA aw I zT3 I)<|pK I (qL (v:=vi ib) iT3 I<|cO 0 I I)<|SP.o I (SO.call call39 I<|ez E g5 _ ia 1) dC (.inr iR) ?_;rintro _ _ _ ⟨rfl,rfl,rfl⟩;refine SP.o I (SO.call call39 I<|ez E g5 _ ib<|-1) dC (.inr iR) ?_;rintro _ _ _ ⟨rfl,rfl,rfl⟩;refine SP.o I (bS sty37 I I I (ab sB) dC) dC (.inr iR) ?_;rintro _ _ _ ⟨b77,rfl,rfl,rfl⟩;refine SP.freeze fun g6 hle6 hb6=>?_;have hs6:SlA encSide g6 (.slice (some ⟨b77,0,none⟩) 2 2) [⟨ia,1⟩,⟨ib,-1⟩]:=SlA.lit hb6 rfl rfl;refine SP.o I (bS sty113 I I I (ab ⟨I,trivial⟩) dC) dC (.inr iR) ?_;rintro _ _ _ ⟨b78,rfl,rfl,rfl⟩;refine SP.o I (aP (e:=cR) (l:=acc4) 2 ⟨some ⟨b77,0,none⟩,2,2⟩ sty113 I I I I I oM oM) dC (.inl dC) ?_;rintro ov6 _ _ ⟨rfl,rfl⟩;exact pU I (aS I)<|pN<|dR (.cons_cons _<|.cons_cons _<|.cons_cons _<|.refl _)<|za8 (g6,ov6,acc4++[⟨some ⟨b77,0,none⟩,2,2⟩]) sB I I ⟨hle6,by dsimp only; rw[ze5,ze7]; omega,(hac5.mono hle6).snoc hs6<|.inl ⟨ia,ib,x0,x1,hne,hEx,by rw[hq0,hq1]; exact hEy,I⟩⟩
    ·exact kP<|za8 (g5,ov4,acc4) sB I I ⟨zb8 _,hL2,hac5⟩
   rintro ⟨g7,ov7,acc7⟩ ⟨hle7,hal7,hac7⟩;dsimp only at hle7 hal7 hac7 ⊢;have hi7:=za4 hi4<|hle5.trans hle7;have hv7:=hv4.mono<|hle5.trans hle7;have hxs7:=za4 hxs5 hle7;have hys7:=za4 hys5 hle7;refine rZ<|aT I<|bK<|SC.loop (ι:=Nat×PH×Value×List Sv) (fun k=>[(1,vi n),(2,pp b2 0),(5,.slice q idl0.length d),(6,k.2.2.1),(7,vi i),(8,pp b8 0),(10,vi j),(11,pp b11 0),(13,vi k.1)]) (fun k=>k.2.1)
    (fun k=>pt b11 (.cells #[vi ib,vi 1,.slice yp 2 yc] 54 (0,0))::pt b8 (.cells #[vi ia,vi 1,.slice xp 2 xc] 54 (0,0))::rowA cR 37 k.2.2.1 k.2.2.2::pt b2 (.cells #[.slice p l.length c] 29 (0,0))::s)
    (fun k=>k.1≤idl0.length∧Le g7 k.2.1∧k.2.2.2.length≤16004000 * i+4001 * j+1+k.1∧nu l k.2.1 k.2.2.2) (fun k=>idl0.length - k.1) (0,g7,ov7,acc7) sB rfl rfl ⟨zf6 _,zb8 _,by dsimp only; omega,hac7⟩ ?_
   rintro ⟨k,g8,ov8,acc8⟩ ⟨hk,hle8,hal8,hac8⟩;dsimp only at hk hle8 hal8 hac8 ⊢;refine sQ<|sW I<|lM I<|lU (eN aG I)<|yL I<|tZ<|iP I (fun hlt3=>?_) (fun hlt3=>?_)
   ·have hkl:k<idl0.length:=oM;have hi8:=za4 hi7 hle8;have hv8:=hv7.mono hle8;have hxs8:=za4 hxs7 hle8;have hys8:=za4 hys7 hle8;have hgk:idl0[((k:Nat):Int).toNat]?=some idl0[k]:=gE hkl;obtain ⟨z0,z1,hEz⟩:=hE _<|gM hkl;generalize idl0[k]=ic at *;refine kP<|tN<|sQ<|bK<|SC.cut (ι:=Nat×PH×Option Addr×Nat) (fun i'=>[(1,vi n),(2,pp b2 0),(5,.slice q idl0.length d),(6,ov8),(7,vi i),(8,pp b8 0),(10,vi j),(11,pp b11 0),(13,vi k),(14,pp i'.1 0)]) (fun i'=>i'.2.1)
     (fun i'=>pt i'.1 (.cells #[vi ic,vi 1,.slice i'.2.2.1 2 i'.2.2.2] 54 (0,0))::pt b11 (.cells #[vi ib,vi 1,.slice yp 2 yc] 54 (0,0))::pt b8 (.cells #[vi ia,vi 1,.slice xp 2 xc] 54 (0,0))::rowA cR 37 ov8 acc8::pt b2 (.cells #[.slice p l.length c] 29 (0,0))::s) (fun i'=>Le g8 i'.2.1∧SlA encSide i'.2.1 (.slice i'.2.2.1 2 i'.2.2.2) [z0,z1]) ?_ ?_
    ·refine SC.drawX [10] ze3 kR ?_;refine SX.q (i:=0) I kR (qV 3 ar ag I I I) dC<|SX.u (i:=1) I kR (mV I) dC<|SX.u (i:=2) I kR (mV I) dC<|SX.u (i:=3) I kR (iA aG zT3 I I hbI oM sL) dC<|SX.q (i:=4) I kR (eB (u:=vi ic) iT3 I (za6 hi8) hgk I) dC ?_
     repeat' (first
      | (refine SB.o (i:=5) I (SO.call call68 I<|aR E g8 _ _ l ic hv8 hf) dC (.inr iR) ?_; rintro _ g9 _ ⟨rfl,hle9,zr,rfl,hcr⟩; obtain ⟨zp,zc,rfl,hzs⟩:=lD hEz hcr; refine SX.u (i:=6) I kD (mV I) dC ?_; refine SX.u (i:=7) I kD (xT I I) dC ?_; refine SX.u (i:=8) I kD (xT I I) dC ?_)
      | (refine SB.o (i:=5) I (SO.call call68 I<|aR E g8 _ _ l ic hv8 hf) dC (.inr iR) ?_; rintro _ g9 _ ⟨rfl,hle9,zr,rfl,hcr⟩; obtain ⟨zp,zc,rfl,hzs⟩:=lD hEz hcr; refine SX.u (i:=6) I kD (mV I) dC ?_; refine SX.u (i:=7) I kD (xT I I) dC ?_; refine SX.u (i:=8) I kD (xT I I) dC ?_)
      | (refine SB.o (i:=9) I (aL zl3) dC (.inr iR) ?_; rintro _ _ _ ⟨b14,rfl,rfl,rfl⟩)
      | (refine SB.o (i:=9) I (aL zl3) dC (.inr iR) ?_; rintro _ _ _ ⟨b14,rfl,rfl,rfl⟩)
      | (refine SB.on (i:=10) I (sK 0 au I I I I I sB) (.inl dC) ?_; rintro _ _ _ ⟨rfl,rfl⟩; refine SX.u (i:=11) I kD (aS I) dC ?_)
      | refine zd7 5 9 kD ?_ ?_
      | refine zd6 9 kD ?_
      | refine zd6 10 kD ?_
      | refine zd6 5 kD ?_
      | (refine SX.nil kD ?_; exact za8 (b14,g9,zp,zc) sB I I ⟨hle9,hzs⟩))
    rintro ⟨b14,g9,zp,zc⟩ ⟨hle9,hzs9⟩;dsimp only at hle9 hzs9 ⊢;have hac9:=hac8.mono hle9;have hxs9:=za4 hxs8 hle9;have hys9:=za4 hys8 hle9;refine SC.cut (ι:=Unit) (fun _=>[(1,vi n),(2,pp b2 0),(5,.slice q idl0.length d),(6,ov8),(7,vi i),(8,pp b8 0),(10,vi j),(11,pp b11 0),(13,vi k),(14,pp b14 0),(120,vb<|decide (ph x0 x1=iH y0 y1)&&decide (iH z0 z1=iH x0 x1)&&decide (ph z0 z1=ph y0 y1)&&decide (ph x0 x1≠ph z0 z1))]) (fun _=>g9)
     (fun _=>pt b14 (.cells #[vi ic,vi 1,.slice zp 2 zc] 54 (0,0))::pt b11 (.cells #[vi ib,vi 1,.slice yp 2 yc] 54 (0,0))::pt b8 (.cells #[vi ia,vi 1,.slice xp 2 xc] 54 (0,0))::rowA cR 37 ov8 acc8::pt b2 (.cells #[.slice p l.length c] 29 (0,0))::s) (fun _=>True) ?_ ?_
    ·by_cases c1:ph x0 x1=iH y0 y1
     ·by_cases c2:iH z0 z1=iH x0 x1
      ·by_cases c3:ph z0 z1=ph y0 y1
       ·refine SC.drawX [] ze3 kR ?_;refine SX.q (i:=0) I kR (qV 2 bQ au I I I) dC<|SX.q (i:=2) I kR (qV 1 bQ au I I I) dC ?_
        repeat' (first
         | (refine SB.o (i:=1) I (SO.call call69 I<|fg E g9 _ ia 1 xp xc x0 x1 hxs9) dC (.inr iR) ?_; rintro _ _ _ ⟨rfl,rfl,rfl⟩)
         | (refine SB.o (i:=3) I (SO.call call70 I<|dB E g9 _ ib 1 yp yc y0 y1 hys9) dC (.inr iR) ?_; rintro _ _ _ ⟨rfl,rfl,rfl⟩; refine SX.u (i:=4) I kD (SU.eq (v':=vb true) (eQ I I)<|ze2 vb<|zf8 c1) dC ?_; refine SX.u (i:=5) I kD (mV I) dC ?_; refine SX.gq (i:=6) I kD (gT I I I dC) (qV 0 bQ au I I I) dC ?_; refine SX.gq (i:=8) I kD (gT I I I dC) (qV 2 bQ au I I I) dC ?_)
         | (refine SB.go (i:=7) I (gT I I I dC) (SO.call call70 I<|dB E g9 _ ic 1 zp zc z0 z1 hzs9) dC (.inr iR) ?_; rintro _ _ _ ⟨rfl,rfl,rfl⟩)
         | (refine SB.go (i:=9) I (gT I I I dC) (SO.call call70 I<|dB E g9 _ ia 1 xp xc x0 x1 hxs9) dC (.inr iR) ?_; rintro _ _ _ ⟨rfl,rfl,rfl⟩; refine SX.gu (i:=10) I kD (gT I I I dC) (SU.eq (v':=vb true) (eQ I I)<|ze2 vb<|zf8 c2) dC ?_; refine SX.u (i:=11) I kD (wT I I) dC ?_; refine SX.u (i:=12) I kD (mV I) dC ?_; refine SX.gq (i:=13) I kD (gT I I I dC) (qV 0 bQ au I I I) dC ?_; refine SX.gq (i:=15) I kD (gT I I I dC) (qV 1 bQ au I I I) dC ?_)
         | (refine SB.go (i:=14) I (gT I I I dC) (SO.call call69 I<|fg E g9 _ ic 1 zp zc z0 z1 hzs9) dC (.inr iR) ?_; rintro _ _ _ ⟨rfl,rfl,rfl⟩)
         | (refine SB.go (i:=16) I (gT I I I dC) (SO.call call69 I<|fg E g9 _ ib 1 yp yc y0 y1 hys9) dC (.inr iR) ?_; rintro _ _ _ ⟨rfl,rfl,rfl⟩; refine SX.gu (i:=17) I kD (gT I I I dC) (SU.eq (v':=vb true) (eQ I I)<|ze2 vb<|zf8 c3) dC ?_; refine SX.u (i:=18) I kD (wT I I) dC ?_; refine SX.u (i:=19) I kD (mV I) dC ?_; refine SX.gq (i:=20) I kD (gT I I I dC) (qV 2 bQ au I I I) dC ?_; refine SX.gq (i:=22) I kD (gT I I I dC) (qV 0 bQ au I I I) dC ?_)
         | (refine SB.go (i:=21) I (gT I I I dC) (SO.call call69 I<|fg E g9 _ ia 1 xp xc x0 x1 hxs9) dC (.inr iR) ?_; rintro _ _ _ ⟨rfl,rfl,rfl⟩)
         | (refine SB.go (i:=23) I (gT I I I dC) (SO.call call69 I<|fg E g9 _ ic 1 zp zc z0 z1 hzs9) dC (.inr iR) ?_; rintro _ _ _ ⟨rfl,rfl,rfl⟩; refine SX.gu (i:=24) I kD (gT I I I dC) (nQ I I) dC ?_; refine SX.u (i:=25) I kD (wT I I) dC ?_)
         | refine zd6 1 kD ?_
         | refine zd6 3 kD ?_
         | refine zd6 7 kD ?_
         | refine zd6 9 kD ?_
         | refine zd6 14 kD ?_
         | refine zd6 16 kD ?_
         | refine zd6 21 kD ?_
         | refine zd6 23 kD ?_
         | (refine SX.nil kD ?_; exact za8 () ⟨I,I,I,I,I,I,I,I,I,I,(by rw[zf8 c1,zf8 c2,zf8 c3]; rfl),trivial⟩ rfl rfl trivial))
       ·refine SC.drawX [] ze3 kR ?_;refine SX.q (i:=0) I kR (qV 2 bQ au I I I) dC<|SX.q (i:=2) I kR (qV 1 bQ au I I I) dC ?_
        repeat' (first
         | (refine SB.o (i:=1) I (SO.call call69 I<|fg E g9 _ ia 1 xp xc x0 x1 hxs9) dC (.inr iR) ?_; rintro _ _ _ ⟨rfl,rfl,rfl⟩)
         | (refine SB.o (i:=3) I (SO.call call70 I<|dB E g9 _ ib 1 yp yc y0 y1 hys9) dC (.inr iR) ?_; rintro _ _ _ ⟨rfl,rfl,rfl⟩; refine SX.u (i:=4) I kD (SU.eq (v':=vb true) (eQ I I)<|ze2 vb<|zf8 c1) dC ?_; refine SX.u (i:=5) I kD (mV I) dC ?_; refine SX.gq (i:=6) I kD (gT I I I dC) (qV 0 bQ au I I I) dC ?_; refine SX.gq (i:=8) I kD (gT I I I dC) (qV 2 bQ au I I I) dC ?_)
         | (refine SB.go (i:=7) I (gT I I I dC) (SO.call call70 I<|dB E g9 _ ic 1 zp zc z0 z1 hzs9) dC (.inr iR) ?_; rintro _ _ _ ⟨rfl,rfl,rfl⟩)
         | (refine SB.go (i:=9) I (gT I I I dC) (SO.call call70 I<|dB E g9 _ ia 1 xp xc x0 x1 hxs9) dC (.inr iR) ?_; rintro _ _ _ ⟨rfl,rfl,rfl⟩; refine SX.gu (i:=10) I kD (gT I I I dC) (SU.eq (v':=vb true) (eQ I I)<|ze2 vb<|zf8 c2) dC ?_; refine SX.u (i:=11) I kD (wT I I) dC ?_; refine SX.u (i:=12) I kD (mV I) dC ?_; refine SX.gq (i:=13) I kD (gT I I I dC) (qV 0 bQ au I I I) dC ?_; refine SX.gq (i:=15) I kD (gT I I I dC) (qV 1 bQ au I I I) dC ?_)
         | (refine SB.go (i:=14) I (gT I I I dC) (SO.call call69 I<|fg E g9 _ ic 1 zp zc z0 z1 hzs9) dC (.inr iR) ?_; rintro _ _ _ ⟨rfl,rfl,rfl⟩)
         | (refine SB.go (i:=16) I (gT I I I dC) (SO.call call69 I<|fg E g9 _ ib 1 yp yc y0 y1 hys9) dC (.inr iR) ?_; rintro _ _ _ ⟨rfl,rfl,rfl⟩; refine SX.gu (i:=17) I kD (gT I I I dC) (SU.eq (v':=vb false) (eQ I I)<|ze2 vb<|zf7 c3) dC ?_; refine SX.u (i:=18) I kD (wT I I) dC ?_; refine SX.u (i:=19) I kD (mV I) dC ?_; refine SX.off (i:=20) I kD (gZ I I I dC) dC ?_; refine SX.off (i:=22) I kD (gZ I I I dC) dC ?_)
         | refine SB.offo (i:=21) I (gZ I I I dC) dC ⟨by exact zb8 _,(by exact .refl _)⟩ ?_
         | (refine SB.offo (i:=23) I (gZ I I I dC) dC ⟨by exact zb8 _,(by exact .refl _)⟩ ?_; refine SX.off (i:=24) I kD (gZ I I I dC) dC ?_; refine SX.u (i:=25) I kD (wF I I) dC ?_)
         | refine zd6 1 kD ?_
         | refine zd6 3 kD ?_
         | refine zd6 7 kD ?_
         | refine zd6 9 kD ?_
         | refine zd6 14 kD ?_
         | refine zd6 16 kD ?_
         | refine zd6 21 kD ?_
         | refine zd6 23 kD ?_
         | (refine SX.nil kD ?_; exact za8 () ⟨I,I,I,I,I,I,I,I,I,I,(by rw[zf8 c1,zf8 c2,zf7 c3]; rfl),trivial⟩ rfl rfl trivial))
      ·refine SC.drawX [] ze3 kR ?_;refine SX.q (i:=0) I kR (qV 2 bQ au I I I) dC<|SX.q (i:=2) I kR (qV 1 bQ au I I I) dC ?_
       repeat' (first
        | (refine SB.o (i:=1) I (SO.call call69 I<|fg E g9 _ ia 1 xp xc x0 x1 hxs9) dC (.inr iR) ?_; rintro _ _ _ ⟨rfl,rfl,rfl⟩)
        | (refine SB.o (i:=3) I (SO.call call70 I<|dB E g9 _ ib 1 yp yc y0 y1 hys9) dC (.inr iR) ?_; rintro _ _ _ ⟨rfl,rfl,rfl⟩; refine SX.u (i:=4) I kD (SU.eq (v':=vb true) (eQ I I)<|ze2 vb<|zf8 c1) dC ?_; refine SX.u (i:=5) I kD (mV I) dC ?_; refine SX.gq (i:=6) I kD (gT I I I dC) (qV 0 bQ au I I I) dC ?_; refine SX.gq (i:=8) I kD (gT I I I dC) (qV 2 bQ au I I I) dC ?_)
        | (refine SB.go (i:=7) I (gT I I I dC) (SO.call call70 I<|dB E g9 _ ic 1 zp zc z0 z1 hzs9) dC (.inr iR) ?_; rintro _ _ _ ⟨rfl,rfl,rfl⟩)
        | (refine SB.go (i:=9) I (gT I I I dC) (SO.call call70 I<|dB E g9 _ ia 1 xp xc x0 x1 hxs9) dC (.inr iR) ?_; rintro _ _ _ ⟨rfl,rfl,rfl⟩; refine SX.gu (i:=10) I kD (gT I I I dC) (SU.eq (v':=vb false) (eQ I I)<|ze2 vb<|zf7 c2) dC ?_; refine SX.u (i:=11) I kD (wT I I) dC ?_; refine SX.u (i:=12) I kD (mV I) dC ?_; refine SX.off (i:=13) I kD (gZ I I I dC) dC ?_; refine SX.off (i:=15) I kD (gZ I I I dC) dC ?_)
        | refine SB.offo (i:=14) I (gZ I I I dC) dC ⟨by exact zb8 _,(by exact .refl _)⟩ ?_
        | (refine SB.offo (i:=16) I (gZ I I I dC) dC ⟨by exact zb8 _,(by exact .refl _)⟩ ?_; refine SX.off (i:=17) I kD (gZ I I I dC) dC ?_; refine SX.u (i:=18) I kD (wF I I) dC ?_; refine SX.u (i:=19) I kD (mV I) dC ?_; refine SX.off (i:=20) I kD (gZ I I I dC) dC ?_; refine SX.off (i:=22) I kD (gZ I I I dC) dC ?_)
        | refine SB.offo (i:=21) I (gZ I I I dC) dC ⟨by exact zb8 _,(by exact .refl _)⟩ ?_
        | (refine SB.offo (i:=23) I (gZ I I I dC) dC ⟨by exact zb8 _,(by exact .refl _)⟩ ?_; refine SX.off (i:=24) I kD (gZ I I I dC) dC ?_; refine SX.u (i:=25) I kD (wF I I) dC ?_)
        | refine zd6 1 kD ?_
        | refine zd6 3 kD ?_
        | refine zd6 7 kD ?_
        | refine zd6 9 kD ?_
        | refine zd6 14 kD ?_
        | refine zd6 16 kD ?_
        | refine zd6 21 kD ?_
        | refine zd6 23 kD ?_
        | (refine SX.nil kD ?_; exact za8 () ⟨I,I,I,I,I,I,I,I,I,I,(by rw[zf8 c1,zf7 c2]; rfl),trivial⟩ rfl rfl trivial))
     ·refine SC.drawX [] ze3 kR ?_;refine SX.q (i:=0) I kR (qV 2 bQ au I I I) dC<|SX.q (i:=2) I kR (qV 1 bQ au I I I) dC ?_
      repeat' (first
       | (refine SB.o (i:=1) I (SO.call call69 I<|fg E g9 _ ia 1 xp xc x0 x1 hxs9) dC (.inr iR) ?_; rintro _ _ _ ⟨rfl,rfl,rfl⟩)
       | (refine SB.o (i:=3) I (SO.call call70 I<|dB E g9 _ ib 1 yp yc y0 y1 hys9) dC (.inr iR) ?_; rintro _ _ _ ⟨rfl,rfl,rfl⟩; refine SX.u (i:=4) I kD (SU.eq (v':=vb false) (eQ I I)<|ze2 vb<|zf7 c1) dC ?_; refine SX.u (i:=5) I kD (mV I) dC ?_; refine SX.off (i:=6) I kD (gZ I I I dC) dC ?_; refine SX.off (i:=8) I kD (gZ I I I dC) dC ?_)
       | refine SB.offo (i:=7) I (gZ I I I dC) dC ⟨by exact zb8 _,(by exact .refl _)⟩ ?_
       | (refine SB.offo (i:=9) I (gZ I I I dC) dC ⟨by exact zb8 _,(by exact .refl _)⟩ ?_; refine SX.off (i:=10) I kD (gZ I I I dC) dC ?_; refine SX.u (i:=11) I kD (wF I I) dC ?_; refine SX.u (i:=12) I kD (mV I) dC ?_; refine SX.off (i:=13) I kD (gZ I I I dC) dC ?_; refine SX.off (i:=15) I kD (gZ I I I dC) dC ?_)
       | refine SB.offo (i:=14) I (gZ I I I dC) dC ⟨by exact zb8 _,(by exact .refl _)⟩ ?_
       | (refine SB.offo (i:=16) I (gZ I I I dC) dC ⟨by exact zb8 _,(by exact .refl _)⟩ ?_; refine SX.off (i:=17) I kD (gZ I I I dC) dC ?_; refine SX.u (i:=18) I kD (wF I I) dC ?_; refine SX.u (i:=19) I kD (mV I) dC ?_; refine SX.off (i:=20) I kD (gZ I I I dC) dC ?_; refine SX.off (i:=22) I kD (gZ I I I dC) dC ?_)
       | refine SB.offo (i:=21) I (gZ I I I dC) dC ⟨by exact zb8 _,(by exact .refl _)⟩ ?_
       | (refine SB.offo (i:=23) I (gZ I I I dC) dC ⟨by exact zb8 _,(by exact .refl _)⟩ ?_; refine SX.off (i:=24) I kD (gZ I I I dC) dC ?_; refine SX.u (i:=25) I kD (wF I I) dC ?_)
       | refine zd6 1 kD ?_
       | refine zd6 3 kD ?_
       | refine zd6 7 kD ?_
       | refine zd6 9 kD ?_
       | refine zd6 14 kD ?_
       | refine zd6 16 kD ?_
       | refine zd6 21 kD ?_
       | refine zd6 23 kD ?_
       | (refine SX.nil kD ?_; exact za8 () ⟨I,I,I,I,I,I,I,I,I,I,(by rw[zf7 c1]; rfl),trivial⟩ rfl rfl trivial))
    rintro _ -;try dsimp only
    refine iQ I (fun hq=>?_) (fun hq=>?_)
    ·simp only[zj3,zj6] at hq;obtain ⟨⟨⟨c1,c2⟩,c3⟩,c4⟩:=hq;refine dW [12] [(0,2),(1,2),(2,1),(4,2),(5,1),(7,2),(8,1),(3,0),(6,0),(9,0),(10,0),(11,0),(12,0),(13,2)] ze3 kR<|yM I<|pU I (fA aw I zT3 I)<|pK I (qL (v:=vi ia) iT3 I<|cO 2 I I)<|pU I (fA aw I zT3 I)<|pK I (qL (v:=vi ib) iT3 I<|cO 1 I I)<|pU I (fA aw I zT3 I)<|pK I (qL (v:=vi ic) iT3 I<|cO 0 I I)<|SP.o I (SO.call call39 I<|ez E g9 _ ia 1) dC (.inr iR) ?_;rintro _ _ _ ⟨rfl,rfl,rfl⟩;refine SP.o I (SO.call call39 I<|ez E g9 _ ib 1) dC (.inr iR) ?_;rintro _ _ _ ⟨rfl,rfl,rfl⟩;refine SP.o I (SO.call call39 I<|ez E g9 _ ic<|-1) dC (.inr iR) ?_;rintro _ _ _ ⟨rfl,rfl,rfl⟩;refine SP.o I (bS sty37 I I I (ab sB) dC) dC (.inr iR) ?_;rintro _ _ _ ⟨b131,rfl,rfl,rfl⟩;refine SP.freeze fun gA hleA hbA=>?_;have hsA:SlA encSide gA (.slice (some ⟨b131,0,none⟩) 3 3) [⟨ia,1⟩,⟨ib,1⟩,⟨ic,-1⟩]:=SlA.lit hbA rfl rfl;refine SP.o I (bS sty113 I I I (ab ⟨I,trivial⟩) dC) dC (.inr iR) ?_;rintro _ _ _ ⟨b132,rfl,rfl,rfl⟩;refine SP.o I (aP (e:=cR) (l:=acc8) 3 ⟨some ⟨b131,0,none⟩,3,3⟩ sty113 I I I I I oM oM) dC (.inl dC) ?_;rintro ovA _ _ ⟨rfl,rfl⟩;exact pU I (aS I)<|pN<|bN<|tN<|rG<|lM I<|yD I<|lA I<|nL<|dR (.cons _<|.refl _)<|ST.again (k+1,gA,ovA,acc8++[⟨some ⟨b131,0,none⟩,3,3⟩]) sB I I ⟨by dsimp only; omega,hle8.trans<|hle9.trans hleA,by dsimp only; rw[ze5,ze7]; omega,(hac9.mono hleA).snoc hsA<|.inr ⟨ia,ib,ic,x0,x1,y0,y1,z0,z1,hne,hEx,hEy,hEz,c1,c2,c3,c4,I⟩⟩ (by dsimp only; omega)
    ·exact kP<|bN<|tN<|rG<|lM I<|yD I<|lA I<|nL<|dR (.cons _<|.refl _)<|ST.again (k+1,g9,ov8,acc8) sB I I ⟨by dsimp only; omega,hle8.trans hle9,by dsimp only; omega,hac9⟩ (by dsimp only; omega)
   ·exact xI<|tX<|tX<|bX<|bN<|tN<|rG<|lM I<|yD I<|lA I<|nL<|dR (.cons _<|.refl _)<|ST.again (j+1,g8,ov8,acc8) sB I I ⟨by dsimp only; omega,by dsimp only; omega,hle4.trans<|hle5.trans<|hle7.trans hle8,by dsimp only; omega,hac8⟩ (by dsimp only; omega)
  ·have hL4:acc4.length≤16004000 * (i+1):=oM;exact xI<|tX<|tX<|bX<|bN<|tN<|rG<|lM I<|yD I<|lA I<|nL<|dR (.cons _<|.refl _)<|ST.again (i+1,g4,ov4,acc4) sB I I ⟨hlt',hle2.trans<|hle3.trans hle4,hL4,hac4⟩ (by dsimp only; omega)
 ·have hacl:acc.length≤64016000000:=oM;refine xI<|tX<|tX<|bX<|tN<|sQ<|rZ<|zd3 fun ⟨w0,hw0⟩=>?_;obtain ⟨q0,d0,rfl⟩:=aj (e:=cR) (l:=acc) (i:=0) hw0 rfl;have hbq:0<acc.length→based (.slice q0 acc.length d0)=true:=fun h=>(by obtain ⟨b0,c0,he⟩:=aM (e:=cR) (l:=acc) (i:=0) hw0 rfl h; rw[he]; rfl);clear hw0 w0;refine lM I<|lU (eN underlying113 I)<|yE I<|tZ ?_;refine iP I (fun h0=>?_) (fun h0=>?_)
  ·exact rZ<|aT I<|rE<|tR<|dR (s':=s) uR<|za7 (.inl I) results40 I ⟨I,hle1.trans hle2,[],zb9 _ _,.inl I⟩
  ·obtain ⟨hm1,hm2⟩:=eO n acc.length oM oM;have hb:=hbq oM;have hmm:=gM hm2;have hgm:acc[(fu n acc.length).toNat]?=some acc[(fu n acc.length).toNat]:=gE hm2;obtain ⟨S,hS1,hS2⟩:=hac _ hmm;generalize acc[(fu n acc.length).toNat]=y at *;refine kP<|tN<|sW I<|lM I<|lM I<|lU (eN underlying113 I)<|lW (SO.call call19 I<|ek E g2 _ n acc.length oM) ?_;rintro _ _ _ ⟨rfl,rfl,rfl⟩;rw[hm1];exact lU (iA underlying113 aO I I hb oM sL)<|lK (eB (u:=.slice y.p y.n y.c) bh I (zb6 0 I) hgm I)<|aT I<|rE<|dR (s':=s) uR<|za7 (.inl I) results40 I ⟨I,hle1.trans hle2,S,hS1,.inr hS2⟩
end Go.Proofs.YtmmghffoakhheaaGreatDoor
