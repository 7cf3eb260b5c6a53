/- 9 -/
import Derived.Test.YtbbppeihhkhkcaaGreatDoorMu08
import Derived.Test.YtbbppeihhkhkcaaGreatDoorMu03
import Derived.Test.YtbbppeihhkhkcaaGreatDoorMu04
import Derived.Test.YtbbppeihhkhkcaaGreatDoorMu05
import Derived.Test.YtbbppeihhkhkcaaGreatDoorMu07
import Derived.SizedLaws
set_option linter.unusedSimpArgs false
set_option linter.unusedVariables false
namespace Go.Proofs.YtbbppeihhkhkcaaGreatDoor
open _root_.Go.Proofs.Tryz _root_.Go.Proofs.YtbbppeihhkhkcaaGreatDoor.Tryz
open Go Go.Sy Go.Pl Go.Proofs
set_option maxRecDepth 100000
set_option maxHeartbeats 1000000
def li (A B:List Cl):List Cl×Bool:=if A.any (ik B) then ([],false) else (aa (A++B.filter (j4 A)),true)
theorem sn {A B:List Cl}(hA:(A.map Cl.id).Nodup)(hB:(B.map Cl.id).Nodup)(h:A.any (ik B)=true):B.any (ik A)=true:=by
 obtain ⟨x,hx,hc⟩:=zj6.1 h;unfold ik at hc;cases hf:ab B x.id with
 | none=>rw[hf] at hc; cases hc
 | some y =>
  rw[hf] at hc;obtain ⟨hy,hid⟩:=ar hf;refine zj6.2 ⟨y,hy,?_⟩;unfold ik;rw[hid,AA hA hx];have hne:¬ y=x:=by simpa using hc
  simpa using fun e=>hne e.symm
theorem wI {A B:List Cl}(hA:(A.map Cl.id).Nodup)(hB:(B.map Cl.id).Nodup):li A B=jr A B:=by
 have:A.any (ik B)=B.any (ik A):=by
  rw[Bool.eq_iff_iff];exact⟨sn hA hB,sn hB hA⟩
 unfold li jr;rw[this]
theorem zz (E:World)(g:PH)(s:Own)(v u:Value)(a b:List Cl)(hv:aj g v a)(hu:aj g u b)(ha:aY a)(hb:aY b)(hab:a.length+b.length<1099511627776) :
  Ctr Tryz.prog E 28 #[.agg #[v],.agg #[u]] g s (fun r g' s'=>s=s'∧Le g g'∧∃ x,r = .tuple #[.agg #[x],vb (jr (ai a) (ai b)).2]∧eJ (mns g' g) x (jr (ai a) (ai b)).1):=by
 rw[← wI (dZ a) (dZ b)];obtain ⟨vp0,vc0,hvf⟩:=hv.form;obtain ⟨up0,uc0,huf⟩:=hu.form;have hta:=eR a;have htb:=eR b;have hfa:=dz ha;have hfb:=dz hb;have hfu:=wH hfa hfb oM;have hnA:=dZ a;have hnB:=dZ b;refine zb1 (args:=[.agg #[v],.agg #[u]]) func28 I ntmps28 (bE I) ?_;refine rZ (bW (bO I) fun b2=>?_);refine bW (bO I) fun b3=>?_;refine bW (aL zk8) fun b4=>?_;refine aT I (sQ ?_);refine dW [] [(0,1),(2,1),(1,0),(3,0),(4,2),(5,2)] ze1 kR ?_;refine pK I (qV 2 aA an I I I) (pK I (qV 1 aA an I I I) (SP.o I (SO.call call52 I (jC E g _ _ a hv ha)) dC (.inr iR) ?_));rintro tv g1 _ ⟨rfl,hle1,hTa0⟩;refine SP.o rfl (SO.call call52 rfl (jC E g1 _ _ b (hu.mono hle1) hb)) dC (.inr (by rintro uv g2 _ ⟨rfl,hle2,hTb⟩; exact⟨by exact Le.trans (by assumption) (by assumption),(by exact .refl _)⟩)) ?_;rintro uv g2 _ ⟨rfl,hle2,hTb⟩;have hTa:=hTa0.mono hle2;obtain ⟨ba,ma,iva,ra,rfl,hba,hma,hIa,halla⟩:=hTa;obtain ⟨bb,mb,ivb,rb,rfl,hbb,hmb,hIb,hallb⟩:=hTb;obtain ⟨qa,da,rfl⟩:=hIa.form;obtain ⟨qb,db,rfl⟩:=hIb.form;refine pU I (aS I) (pU I (aS I) (pN (tN (rZ (bW (aL zk8) fun b8=>?_)))));refine tZ (sQ (sW I (lU (nC I) (lU (fA e8 I eK I) (lK (qL (v:=.slice qa ((ai a).map Cl.id).length da) fx I (cK hba I)) (lU (eN aB I) (lM I (tZ (bK ?_)))))))));have eal:=halla.length;have ebl:=hallb.length;generalize ai a=A at *;generalize ai b=B at *;have hids:=gg halla;have hidsB:=gg hallb;have hnr:(ra.map Rc.id).Nodup:=by rw[← hids]; exact hnA
 have hnrB:(rb.map Rc.id).Nodup:=by rw[← hidsB]; exact hnB
 refine zb5 56 3 ?_;simp only[ze4] at hIa hIb hba hbb ⊢;refine oP (ι:=Value×List Rc×Nat) (fun i=>[(2,pp b2 0),(3,pp b3 0),(4,pp b4 0),(5,vb false),(6,pp ba 0),(7,pp bb 0),(8,pp b8 0),(24,.slice qa A.length da),(25,vi A.length),(26,vi i.2.2)]) (fun _=>g2) (fun i=>rowA encCell 56 i.1 i.2.1::pt b8 (.cells #[i.1] 29 (0,0))::pt b4 (.cells #[.slice none 0 0] 29 (0,0))::pt b3 (.cells #[u] 29 (0,0))::pt b2 (.cells #[v] 29 (0,0))::s)
  (fun i=>i.2.2≤A.length∧az (ak g2) (A.take i.2.2) i.2.1∧(A.take i.2.2).any (ik B)=false) (fun i=>A.length - i.2.2)
  (.slice none 0 0,[],0) sB rfl rfl ⟨zf4 _,trivial,rfl⟩ ?_
 rintro ⟨ov,acc,k⟩ ⟨hk,hacc,hno⟩;dsimp only at hk hacc hno ⊢;have hal:=hacc.length;rw[ze2] at hal;refine rZ (yL I (tZ (sQ ?_)));refine iP I (fun hlt=>?_) (fun hlt=>?_)
 ·have hkl:k<A.length:=oM;have hkr:k<ra.length:=oM;have hbi:=hIa.based (by simp; omega);have hcr:=halla.get (List.getElem?_eq_getElem hkl) (List.getElem?_eq_getElem hkr);have hmem:A[k]∈A:=gM hkl;have hget:dp (ra.map am) A[k].id=some (rcv ra[k]):=by
   rw[gU,← hcr.1,lJ hnr (List.getElem?_eq_getElem hkr)]; rfl
  have htk:A.take (k+1)=A.take k++[A[k]]:=tS hkl;have hgi:(A.map Cl.id)[((k:Nat):Int).toNat]?=some A[k].id:=by simp[hkl]
  generalize A[k]=x at *;have hxl:=hfa.2 x hmem;obtain ⟨xp,xc,hrx,hxs⟩:=di hcr;rw[hrx] at hget hcr;obtain ⟨z,hz1,hz2,hz3⟩:=cg hallb eU x.id;obtain ⟨zi,zd,zp,zn,zc⟩:=z;have hz2':(dp (rb.map am) x.id).isSome=(ab B x.id).isSome:=hz2;have hz3':ak g2 ((ab B x.id).getD bi) ⟨zi,zd,zp,zn,zc⟩:=hz3;cases hf0:ab B x.id with
  | none =>
   have hcl:ik B x=false:=by unfold ik; rw[hf0]
   refine kP (tN (sQ (bK (rZ (lU (iA aB zT3 I I hbi oM sL) (lK (eB iT3 I hIa.rd hgi I) (aT I (sQ (sW I (lU (nC I) (lU (fA e8 I e6 I) (lK (qL fe I (cK hbb I)) (lM I (lK (SQ.eq (v':=.tuple #[rcv ⟨zi,zd,zp,zn,zc⟩,vb false]) (SQ.lookupOk mty125 I I (aR.known hmb)) (by rw[hz1,hz2',hf0]; rfl)) ?_))))))))))))));refine lM I (yX I (yX I (bW (aL zl2) fun b11=>?_)));refine oZ (sK 0 ao I I I I I sB) ?_;refine aT I (sQ ?_);refine dW [] [(0,2),(1,2),(2,2),(3,2),(4,2),(5,1),(6,2),(7,1),(8,1),(9,0),(10,2),(11,2)] ze1 kR ?_;refine yM I (yM I (yG I (yG I (yG I (yI I (yG I (yI I (yI I (fO I (gZ I I I dC) dC ⟨by exact zb8 _,(by exact .refl _)⟩ ?_)))))))));refine yG I (pU I (wF I I) (pN (tN (cF I (kP (tN ?_))))));refine dW [9,10,11] [(0,2),(1,1),(2,2),(3,2),(4,2),(5,1),(6,2),(7,1),(8,0),(9,0),(10,0),(11,0)] ze1 kR ?_;refine pU I (fA dG I cQ I) (pK I (qL (v:=ov) fp I (cO 2 I I)) (yM I (pU I (nC I) (pU I (fA e8 I e6 I) (pK I (qL fe I (cK hba I)) (yM I (pK I (SQ.eq (SQ.lookup mty125 I I (aR.known hma)) (by (rw[hget]; done))) ?_)))))));refine SP.o I (bS sty27 I I I (ag sB) dC) dC (.inr iR) ?_;rintro _ _ _ ⟨b60,rfl,rfl,rfl⟩;refine SP.o I (aP (e:=encCell) (l:=acc) 1 ⟨x.id,x.dim,⟨xp,x.sides.length,xc⟩⟩ sty27 I I I I I oM oM) dC (.inl dC) ?_;rintro v61 _ _ ⟨rfl,rfl⟩;refine zd1 fun ⟨w0,hw0⟩=>?_;obtain ⟨q9,d9,rfl⟩:=ae (i:=1) hw0 rfl;clear hw0 w0;refine oU I (fA dG I cQ I) dC (.inl dC) (SP.on I (sK 2 cQ I I I I I sB) (.inl dC) ?_);rintro _ _ _ ⟨rfl,rfl⟩;refine pN (bN (tN (rG (yD I (lM I (nL (dR (s':=rowA encCell 56 (.slice q9 (acc++[(⟨x.id,x.dim,⟨xp,x.sides.length,xc⟩⟩:Rc)]).length d9) (acc++[⟨x.id,x.dim,⟨xp,x.sides.length,xc⟩⟩])::pt b8 (.cells #[(.slice q9 (acc++[(⟨x.id,x.dim,⟨xp,x.sides.length,xc⟩⟩:Rc)]).length d9)] 29 (0,0))::pt b4 (.cells #[.slice none 0 0] 29 (0,0))::pt b3 (.cells #[u] 29 (0,0))::pt b2 (.cells #[v] 29 (0,0))::s) (.cons _ (.refl _)) ?_)))))));refine ST.again (_,acc++[⟨x.id,x.dim,⟨xp,x.sides.length,xc⟩⟩],k+1) sB I I ⟨lN,?_,?_⟩ lN
   ·dsimp only;rw[htk];exact hacc.append ⟨hcr,trivial⟩
   ·dsimp only;rw[htk,List.any_append,hno];simp[hcl]
  | some y =>
   rw[hf0] at hz3';have hyr:ak g2 y ⟨zi,zd,zp,zn,zc⟩:=hz3';have hcl0:ik B x = !decide (y=x):=by unfold ik; rw[hf0]
   refine kP (tN (sQ (bK (rZ (lU (iA aB zT3 I I hbi oM sL) (lK (eB iT3 I hIa.rd hgi I) (aT I (sQ (sW I (lU (nC I) (lU (fA e8 I e6 I) (lK (qL fe I (cK hbb I)) (lM I (lK (SQ.eq (v':=.tuple #[rcv ⟨zi,zd,zp,zn,zc⟩,vb true]) (SQ.lookupOk mty125 I I (aR.known hmb)) (by rw[hz1,hz2',hf0]; rfl)) ?_))))))))))))));refine lM I (yX I (yX I (bW (aL zl2) fun b11=>?_)));refine oZ (sK 0 ao I I I I I sB) ?_;refine aT I (sQ ?_);refine dW [] [(0,2),(1,2),(2,2),(3,2),(4,2),(5,1),(6,2),(7,1),(8,1),(9,0),(10,2),(11,2)] ze1 kR ?_;refine yM I (yM I (yJ I (zb2 I (gT I I I dC) (nC I) dC (zb2 I (gT I I I dC) (fA e8 I e6 I) dC (SP.gq I (gT I I I dC) (qL fe I (cK hba I)) dC (yJ I (SP.gq I (gT I I I dC) (SQ.eq (SQ.lookup mty125 I I (aR.known hma)) (by (rw[hget]; done))) dC ?_)))))));refine SP.gq I (gT I I I dC) (qV 0 ct ao I I I) dC (SP.go I (gT I I I dC) (SO.call call82 I (m9 E g2 _ x y ⟨x.id,x.dim,⟨xp,x.sides.length,xc⟩⟩ ⟨zi,zd,zp,zn,zc⟩ hcr hyr hxl)) dC (.inr iR) ?_);rintro _ _ _ ⟨rfl,rfl,rfl⟩;refine zb2 I (gT I I I dC) (SU.notP I) dC (pU I (wT I I) (pN (tN ?_)));refine iP I (fun hne=>?_) (fun hne=>?_)
   ·have hbad:A.any (ik B)=true:=zj6.2 ⟨x,hmem,by rw[hcl0]; simpa using fun e=>hne e.symm⟩;refine rZ (lU (za2 I (buildE29)) (oZ (sK 3 an I I I I I sB) ?_));refine aT I (rE (tR (bR (tR (tR (bR (tR ?_)))))));exact ST.retCD1 3 s (.inl I) results28 I I aA an I I uR ⟨I,hle1.trans hle2,_,by unfold li; rw[zf8 hbad]; rfl,by unfold li; rw[zf8 hbad]; exact⟨[],RK.nil _ _ _,trivial⟩⟩
   ·have hcl:ik B x=false:=by rw[hcl0,← zg7 hne]; simp
    refine kP (tN ?_);refine dW [9,10,11] [(0,2),(1,1),(2,2),(3,2),(4,2),(5,1),(6,2),(7,1),(8,0),(9,0),(10,0),(11,0)] ze1 kR ?_;refine pU I (fA dG I cQ I) (pK I (qL (v:=ov) fp I (cO 2 I I)) (yM I (pU I (nC I) (pU I (fA e8 I e6 I) (pK I (qL fe I (cK hba I)) (yM I (pK I (SQ.eq (SQ.lookup mty125 I I (aR.known hma)) (by (rw[hget]; done))) ?_)))))));refine SP.o I (bS sty27 I I I (ag sB) dC) dC (.inr iR) ?_;rintro _ _ _ ⟨b60,rfl,rfl,rfl⟩;refine SP.o I (aP (e:=encCell) (l:=acc) 1 ⟨x.id,x.dim,⟨xp,x.sides.length,xc⟩⟩ sty27 I I I I I oM oM) dC (.inl dC) ?_;rintro v61 _ _ ⟨rfl,rfl⟩;refine zd1 fun ⟨w0,hw0⟩=>?_;obtain ⟨q9,d9,rfl⟩:=ae (i:=1) hw0 rfl;clear hw0 w0;refine oU I (fA dG I cQ I) dC (.inl dC) (SP.on I (sK 2 cQ I I I I I sB) (.inl dC) ?_);rintro _ _ _ ⟨rfl,rfl⟩;refine pN (bN (tN (rG (yD I (lM I (nL (dR (s':=rowA encCell 56 (.slice q9 (acc++[(⟨x.id,x.dim,⟨xp,x.sides.length,xc⟩⟩:Rc)]).length d9) (acc++[⟨x.id,x.dim,⟨xp,x.sides.length,xc⟩⟩])::pt b8 (.cells #[(.slice q9 (acc++[(⟨x.id,x.dim,⟨xp,x.sides.length,xc⟩⟩:Rc)]).length d9)] 29 (0,0))::pt b4 (.cells #[.slice none 0 0] 29 (0,0))::pt b3 (.cells #[u] 29 (0,0))::pt b2 (.cells #[v] 29 (0,0))::s) (.cons _ (.refl _)) ?_)))))));refine ST.again (_,acc++[⟨x.id,x.dim,⟨xp,x.sides.length,xc⟩⟩],k+1) sB I I ⟨lN,?_,?_⟩ lN
    ·dsimp only;rw[htk];exact hacc.append ⟨hcr,trivial⟩
    ·dsimp only;rw[htk,List.any_append,hno];simp[hcl]
 ·have hkk:A.take k=A:=tL oM;rw[hkk] at hacc hno;have hlA:acc.length=A.length:=hacc.length.symm;clear hal;refine xI (tX (tX (bX (tN (sQ (sW I (lU (nC I) (lU (fA e8 I eK I) (lK (qL (v:=.slice qb B.length db) fx I (cK hbb I)) (lU (eN aB I) (lM I (tZ (bK ?_)))))))))))));refine oP (ι:=Value×List Rc×Nat) (fun i=>[(2,pp b2 0),(3,pp b3 0),(4,pp b4 0),(5,vb false),(6,pp ba 0),(7,pp bb 0),(8,pp b8 0),(67,.slice qb B.length db),(68,vi B.length),(69,vi i.2.2)]) (fun _=>g2) (fun i=>rowA encCell 56 i.1 i.2.1::pt b8 (.cells #[i.1] 29 (0,0))::pt b4 (.cells #[.slice none 0 0] 29 (0,0))::pt b3 (.cells #[u] 29 (0,0))::pt b2 (.cells #[v] 29 (0,0))::s)
   (fun i=>i.2.2≤B.length∧az (ak g2) (A++(B.take i.2.2).filter (j4 A)) i.2.1) (fun i=>B.length - i.2.2)
   (ov,acc,0) sB rfl rfl ⟨zf4 _,by simpa using hacc⟩ ?_
  clear hlA hacc;rintro ⟨ov,acc,k⟩ ⟨hk,hacc⟩;dsimp only at hk hacc ⊢;have hal:=hacc.length;have hfl:=zc4 (j4 A) (B.take k);rw[ze3] at hal;rw[ze2] at hfl;refine rZ (yL I (tZ (sQ ?_)));refine iP I (fun hlt2=>?_) (fun hlt2=>?_)
  ·have hkl:k<B.length:=oM;have hkr:k<rb.length:=oM;have hbi:=hIb.based (by simp; omega);have hcr:=hallb.get (List.getElem?_eq_getElem hkl) (List.getElem?_eq_getElem hkr);have hget:dp (rb.map am) B[k].id=some (rcv rb[k]):=by
    rw[gU,← hcr.1,lJ hnrB (List.getElem?_eq_getElem hkr)]; rfl
   have htk:B.take (k+1)=B.take k++[B[k]]:=tS hkl;have hgi:(B.map Cl.id)[((k:Nat):Int).toNat]?=some B[k].id:=by simp[hkl]
   generalize B[k]=x at *;obtain ⟨xp,xc,hrx,hxs⟩:=di hcr;rw[hrx] at hget hcr;obtain ⟨z,hz1,hz2,hz3⟩:=cg halla eU x.id;obtain ⟨zi,zd,zp,zn,zc⟩:=z;have hz2':(dp (ra.map am) x.id).isSome=(ab A x.id).isSome:=hz2;refine kP (tN (sQ (bK (rZ (lU (iA aB zT3 I I hbi oM sL) (lK (eB iT3 I hIb.rd hgi I) (aT I (sW I (lU (nC I) (lU (fA e8 I e6 I) (lK (qL fe I (cK hba I)) (lM I (lK (SQ.eq (v':=.tuple #[rcv ⟨zi,zd,zp,zn,zc⟩,vb (ab A x.id).isSome]) (SQ.lookupOk mty125 I I (aR.known hma)) (by (rw[hz1,hz2']; done))) ?_)))))))))))));refine lM I (yX I (yX I (bW (aL zl2) fun b15=>?_)));refine oZ (sK 0 ao I I I I I sB) ?_;refine aT I (sW I (lU (SU.not I) (tZ ?_)));refine iQ I (fun hnw=>?_) (fun hnw=>?_)
   ·have hnew:j4 A x=true:=by unfold j4; cases hf:ab A x.id with | none=>rfl | some w=>rw[hf] at hnw; cases hnw
    refine dW [9,10,11] [(0,2),(1,1),(2,2),(3,2),(4,2),(5,1),(6,2),(7,1),(8,0),(9,0),(10,0),(11,0)] ze1 kR ?_;refine pU I (fA dG I cQ I) (pK I (qL (v:=ov) fp I (cO 2 I I)) (yM I (pU I (nC I) (pU I (fA e8 I e6 I) (pK I (qL fe I (cK hbb I)) (yM I (pK I (SQ.eq (SQ.lookup mty125 I I (aR.known hmb)) (by (rw[hget]; done))) ?_)))))));refine SP.o I (bS sty27 I I I (ag sB) dC) dC (.inr iR) ?_;rintro _ _ _ ⟨b92,rfl,rfl,rfl⟩;refine SP.o I (aP (e:=encCell) (l:=acc) 1 ⟨x.id,x.dim,⟨xp,x.sides.length,xc⟩⟩ sty27 I I I I I oM oM) dC (.inl dC) ?_;rintro v93 _ _ ⟨rfl,rfl⟩;refine zd1 fun ⟨w0,hw0⟩=>?_;obtain ⟨q9,d9,rfl⟩:=ae (i:=1) hw0 rfl;clear hw0 w0;refine oU I (fA dG I cQ I) dC (.inl dC) (SP.on I (sK 2 cQ I I I I I sB) (.inl dC) ?_);rintro _ _ _ ⟨rfl,rfl⟩;refine pN (bN (tN (rG (yD I (lM I (nL (dR (s':=rowA encCell 56 (.slice q9 (acc++[(⟨x.id,x.dim,⟨xp,x.sides.length,xc⟩⟩:Rc)]).length d9) (acc++[⟨x.id,x.dim,⟨xp,x.sides.length,xc⟩⟩])::pt b8 (.cells #[(.slice q9 (acc++[(⟨x.id,x.dim,⟨xp,x.sides.length,xc⟩⟩:Rc)]).length d9)] 29 (0,0))::pt b4 (.cells #[.slice none 0 0] 29 (0,0))::pt b3 (.cells #[u] 29 (0,0))::pt b2 (.cells #[v] 29 (0,0))::s) (.cons _ (.refl _)) ?_)))))));refine ST.again (_,acc++[⟨x.id,x.dim,⟨xp,x.sides.length,xc⟩⟩],k+1) sB I I ⟨lN,?_⟩ lN;dsimp only;rw[htk,zh4,← zg6];simp only[zi5,hnew,if_true,List.filter_nil];exact hacc.append ⟨hcr,trivial⟩
   ·have hnew:j4 A x=false:=by unfold j4; cases hf:ab A x.id with | none=>rw[hf] at hnw; cases hnw | some w=>rfl
    refine kP (bN (tN (rG (yD I (lM I (nL (dR (s':=rowA encCell 56 ov acc::pt b8 (.cells #[ov] 29 (0,0))::pt b4 (.cells #[.slice none 0 0] 29 (0,0))::pt b3 (.cells #[u] 29 (0,0))::pt b2 (.cells #[v] 29 (0,0))::s) (.cons _ (.refl _)) ?_)))))));refine ST.again (ov,acc,k+1) sB I I ⟨lN,?_⟩ lN;dsimp only;rw[htk,zh4];simp only[zi5,hnew,List.filter_nil];simpa using hacc
  ·have hkk2:B.take k=B:=tL oM;rw[hkk2] at hacc;refine xI (tX (tX (bX (tN (sQ (fS fun g3 hle3 hs3=>?_))))));have hov:aj g3 ov (A++B.filter (j4 A)):=⟨acc,hs3,hacc.mono fun _ _=>ak.mono hle3⟩;refine rG (lK (qV 0 aA an I I I) (lW (SO.call call53 I (kX E g3 _ _ _ hov hfu)) ?_));rintro _ g4 _ ⟨rfl,hle4,x4,rfl,hx4⟩;obtain ⟨q4,d4,rfl⟩:=(hx4.cells (dT _ _)).form;refine oZ (sK 1 an I I I I I sB) ?_;refine aT I (rE ?_);exact ST.retCD1 1 s (.inl I) results28 I I aA an I I uR ⟨I,hle1.trans (hle2.trans (hle3.trans hle4)),_,by unfold li; rw[zf7 (by rw[hno]; simp)]; rfl,by unfold li; rw[zf7 (by rw[hno]; simp)]; exact hx4.mono (ig (hle1.trans (hle2.trans hle3)))⟩
theorem wG (E:World)(g:PH)(s:Own)(v u:Value)(a b:List Cl)(hv:aj g v a)(hu:aj g u b)(ha:aY a)(hb:aY b)(hab:a.length+b.length<1099511627776) :
  Ctr Tryz.prog E 28 #[.agg #[v],.agg #[u]] g s (fun r g' s'=>s=s'∧Le g g'∧∃ x,r = .tuple #[.agg #[x],vb (jr (ai a) (ai b)).2]∧aj g' x (jr (ai a) (ai b)).1) :=
 (zz E g s v u a b hv hu ha hb hab).mono fun _ _ _ ⟨h1,h2,x,h3,h4⟩=>⟨h1,h2,x,h3,h4.cells (dT _ _)⟩
end Go.Proofs.YtbbppeihhkhkcaaGreatDoor
namespace Go.Sy
open Go
section
variable {P:Program}{N:Nat}{E:World}{f:Fr}{g:PH}{s s1:Own}{dst:Option Tmp}{ty:TypeId}{pos:String}{af:Array Edge}{gd:Option (Nat×Bool)}{α:Type}{k:Nat}{e:Enc α k}
end
end Go.Sy
namespace Go.Proofs.YtbbppeihhkhkcaaGreatDoor
open _root_.Go.Proofs.Tryz _root_.Go.Proofs.YtbbppeihhkhkcaaGreatDoor.Tryz
open Go Go.Sy Go.Pl Go.Proofs
def kG (A:List Cl)(k:Int):Option (List Int):=(ab A k).map fun c=>c.sides.map ah.cell
theorem oV (A:List Cl):∀ (n:Nat) (id:Int) (vis:List Int),dx A n id vis=dfs (kG A) n id vis
 | 0,_,_=>rfl
 | n+1,id,vis=>by
  rw[nK,jd];unfold kG;cases ab A id with
  | none=>rfl
  | some c =>
   simp only[Option.map_some,List.foldl_map];congr 2;funext v x;exact oV A n x.cell v
theorem AQ {A:List Cl}{k:Int}{l:List Int}(h:kG A k=some l):∃ c,ab A k=some c∧c.sides.map ah.cell=l:=by
 unfold kG at h;cases hf:ab A k with
 | none=>rw[hf] at h; cases h
 | some c=>rw[hf] at h; injection h with h; exact⟨c,I,h⟩
theorem uT (A:List Cl):∀ v k l,kG A k=some l→l≠[]→v.contains k=false→n5 A (v++[k])<n5 A v:=by
 intro v k l hl _ hv;obtain ⟨c,hf,_⟩:=AQ hl;obtain ⟨hm,rfl⟩:=ar hf;exact zm hm hv
def tG (A:List Cl)(v:List Int):Prop:=∀ x∈v,∀ l,kG A x=some l→∀ y∈l,kG A y≠none→y∈v
theorem sk (A:List Cl):∀ (ids v:List Int),tG A v→tG A (ids.foldl (fun v id=>dx A (A.length+1) id v) v)∧(∀ x∈v,x∈ids.foldl (fun v id=>dx A (A.length+1) id v) v) ∧
  (∀ id∈ids,kG A id≠none→id∈ids.foldl (fun v id=>dx A (A.length+1) id v) v)∧∀ x∈ids.foldl (fun v id=>dx A (A.length+1) id v) v,x∈v∨∃ id∈ids,Rch (kG A) id x
 | [],v,h=>⟨h,fun _ h=>h,by simp,fun _ h=>.inl h⟩
 | id::ids,v,h=>by
  have hc:=jq (kG A) (n5 A) (fun v v' h=>nn h) (uT A) (A.length+1) id v (zk6 (zo _ _));have hs:=qf (kG A) (A.length+1) id v;have hd:=nm (kG A) (A.length+1) id v;rw[← oV] at hc hs hd;have hcl:tG A (dx A (A.length+1) id v):=by
   intro x hx l hl y hy hn;by_cases hv:x∈v
   ·exact hs y (h x hv l hl y hy hn)
   ·exact hc.2 x hx hv l hl y hy hn
  obtain ⟨h1,h2,h3,h4⟩:=sk A ids _ hcl;simp only[zi6];refine⟨h1,fun x hx=>h2 x (hs x hx),fun q hq hn=>?_,fun x hx=>?_⟩
  ·rcases ze8.1 hq with rfl | hq
   ·exact h2 _ (hc.1 hn)
   ·exact h3 q hq hn
  ·rcases h4 x hx with h5 | ⟨q,hq,h5⟩
   ·rcases hd x h5 with h6 | h6
    ·exact .inl h6
    ·exact .inr ⟨id,by simp,h6⟩
   ·exact .inr ⟨q,by simp[hq],h5⟩
theorem rP (A:List Cl)(ids:List Int)(x:Int):x∈m0 A ids↔∃ id∈ids,Rch (kG A) id x:=by
 obtain ⟨h1,_,h3,h4⟩:=sk A ids [] (fun x hx=>absurd hx (by simp));refine⟨fun h=>(h4 x h).resolve_left (by simp),fun ⟨id,hid,hr⟩=>?_⟩;have key:∀ a b,Rch (kG A) a b→a∈m0 A ids→b∈m0 A ids:=by
  intro a b hr;induction hr with
  | refl a _=>exact fun h=>h
  | step a b c l hl hb r ih=>exact fun h=>ih (h1 a h l hl b hb r.node)
 exact key id x hr (h3 id hid hr.node)
def D5 (A:List Cl)(m:List Int):Nat:=((A.filter fun c=>!m.contains c.id).map fun c=>c.sides.length).sum
structure Wide (A:List Cl)(ids left m:List Int):Prop where
 sound:∀ x∈m,∃ id∈ids,Rch (kG A) id x
 todo:∀ x∈left,kG A x≠none→∃ id∈ids,Rch (kG A) id x
 start:∀ x∈ids,kG A x≠none→x∈left∨x∈m
 sides:∀ x∈m,∀ l,kG A x=some l→∀ y∈l,kG A y≠none→y∈left∨y∈m
 few:left.length+D5 A m≤ids.length+D5 A []
def qM (A B:List Cl)(id:Int):Bool:=match ab B id with
 | some y=>decide ((ab A id).getD bi=y)
 | none=>false
def oe (A B:List Cl)(c:Cl):Bool:=(m0 A [c.id]).all (qM A B)
def gz (A B:List Cl):List Cl:=A.filter (oe A B)
theorem Rch.last {adj:Int→Option (List Int)}{a b:Int}(h:Rch adj a b):adj b≠none:=by
 induction h with
 | refl _ h=>exact h
 | step _ _ _ _ _ _ _ ih=>exact ih
theorem wi {A:List Cl}{ids:List Int}{x:Int}(h:x∈m0 A ids):∃ c,ab A x=some c:=by
 obtain ⟨id,_,hr⟩:=(rP A ids x).1 h;have:=hr.last;unfold kG at this;cases hf:ab A x with
 | none=>rw[hf] at this; simp at this
 | some c=>exact⟨c,rfl⟩
set_option maxRecDepth 100000
set_option maxHeartbeats 1000000
theorem BR (E:World)(g0:PH)(bt bu:Nat)(tv uv:Value)(A B:List Cl)(hT:Tab g0 tv A)(hU:Tab g0 uv B)(hA:aY A)(hnA:(A.map Cl.id).Nodup)(h1:g0 bt=some (.cells #[tv] 105 (0,0)))(h2:g0 bu=some (.cells #[uv] 105 (0,0))) :
  rm E (.func (.func 92) #[] #[pp bt 0,pp bu 0]) (oe A B) A g0:=by
 intro g s c r hle0 hmem hc;replace hT:=hT.mono hle0;replace hU:=hU.mono hle0;replace h1:=hle0 _ _ h1;replace h2:=hle0 _ _ h2;obtain ⟨rp,rcap,rfl,hcs⟩:=di hc;refine bM.mk (cap:=[pp bt 0,pp bu 0]) call92 ?_;have hT0:=hT;obtain ⟨ba,ma,iva,ra,rfl,hba,hma,hIa,halla⟩:=hT;obtain ⟨bb,mb,ivb,rb,rfl,hbb,hmb,hIb,hallb⟩:=hU;have hcl:=fun id (h:id∈m0 A [c.id])=>wi h;have hmp:oe A B c=(m0 A [c.id]).all (qM A B):=rfl;generalize hC:m0 A [c.id]=C at *;refine zb1 (args:=[rcv ⟨c.id,c.dim,⟨rp,c.sides.length,rcap⟩⟩,pp bt 0,pp bu 0]) func92 I ntmps92 (bE I) ?_;refine rZ (bW (bO I) fun b3=>?_);refine aT I (sQ (rZ (lK (qL isAgg105 I (cK h1 I)) (lU (fA ay I zT3 I) (lK (qL (v:=vi c.id) iT3 I (cO 0 I I)) (lW (bS sty52 I I I (ag ⟨I,trivial⟩) dC) ?_))))));rintro _ _ _ ⟨b11,rfl,rfl,rfl⟩;refine zb4 fun g1 hle1 hb11=>?_;have hi1:df g1 (.slice (some ⟨b11,0,none⟩) 1 1) [c.id]:=SlA.lit hb11 rfl rfl;refine lW (SO.call call93 I (tf E g1 _ _ _ A [c.id] (hT0.mono hle1) hA hi1 (by simp))) ?_;rintro _ g2 _ ⟨m,rfl,hle2,rfl⟩;rw[hC];refine SL.freezeMap fun g3 hle3 hm3=>?_;obtain ⟨es,clk,hes,hmi⟩:=hm3;refine lW (SO.range underlying143 I hes) ?_;rintro _ _ _ ⟨it,rfl,rfl,rfl⟩;refine tZ (bK ?_);have hle13:=hle1.trans (hle2.trans hle3);refine oP (ι:=List MapEntry×List (Int×Value)) (fun _=>[(1,pp bt 0),(2,pp bu 0),(13,pp it 0)]) (fun _=>g3)
  (fun i=>iter it m es clk i.1::pt b3 (.cells #[vi c.id,vi c.dim,.slice rp c.sides.length rcap] 56 (0,0))::s)
  (fun i=>kI (gj C) es i.1 i.2∧∀ p∈i.2,qM A B p.1=true) (fun i=>C.length - i.2.length)
  ([],[]) sB rfl rfl ⟨kI.nil _ _,by simp⟩ ?_
 rintro ⟨vis,vl⟩ ⟨hrv,hgood⟩;dsimp only at hrv hgood ⊢;have hvle:=hrv.len hmi;simp only[gj,ze4] at hvle;refine rZ (lW (SO.nextP 0 I I hes hmi hrv) ?_);rintro _ _ _ ⟨rfl,hcase⟩
 rcases hcase with ⟨rfl,rfl,hperm⟩ | ⟨e,pr,he,hp1,hk1,hv1,hrv2,rfl,rfl⟩
 ·have hall:oe A B c=true:=by
   rw[hmp,zj7];intro id hid;have:(id,vb true)∈gj C:=ze9.2 ⟨id,hid,rfl⟩;exact hgood _ (hperm.symm.subset this)
  refine yX I (tZ (sQ (cF I (xI (tX (tX (bX (tN (rZ (aT I (rE ?_)))))))))));refine dR (s':=s) (.cons _ (.cons _ (.refl _))) (ST.less hle13 ?_);exact za7 (.inl I) results92 I ⟨by rw[hall],I,I⟩
 ·obtain ⟨id,hid,rfl⟩:=ze9.1 hp1;have hvl2:=hrv2.len hmi;simp only[gj,ze4,ze3,ze5] at hvl2;obtain ⟨x,hx⟩:=hcl id hid;obtain ⟨hxm,hxid⟩:=ar hx;have hxl:=hA.2 x hxm;obtain ⟨y,hy1,hy2,hy3⟩:=cg halla eU id;have hy3':ak g ((ab A id).getD bi) y:=hy3;rw[hx] at hy3';obtain ⟨yi,yd,yp,yn,yc⟩:=y;obtain ⟨z,hz1,hz2,hz3⟩:=cg hallb eU id;obtain ⟨zi,zd,zp,zn,zc⟩:=z;have hz2':(dp (rb.map am) id).isSome=(ab B id).isSome:=hz2;have hz3':ak g ((ab B id).getD bi) ⟨zi,zd,zp,zn,zc⟩:=hz3;cases hf0:ab B id with
  | none =>
   have hbad:oe A B c=false:=by
    rw[hmp,List.all_eq_false];exact⟨id,hid,by unfold qM; rw[hf0]; simp⟩
   refine yX I (tZ (sQ (za1 I (kP (tN (bK (rZ (lK (SQ.entryP 0 I I hes hmi he hk1 hv1) (yX I (aT I (rZ (lK (qL isAgg105 I (cK (hle13 _ _ h2) I)) (lU (nC I) (lU (fA e8 I e6 I) (lK (qL fe I (cK (hle13 _ _ hbb) I)) (lM I (lK (SQ.eq (v':=.tuple #[rcv ⟨zi,zd,zp,zn,zc⟩,vb false]) (SQ.lookupOk mty125 I I (aR.known (hmb.mono hle13))) (by rw[hz1,hz2',hf0]; rfl)) ?_)))))))))))))))));refine lM I (yX I (yX I (bW (aL zl2) fun b6=>?_)));refine oZ (sK 0 ao I I I I I sB) ?_;refine aT I (sQ ?_);refine dW [] [(0,2),(1,2),(2,2),(3,1),(4,2),(5,2),(6,1),(7,2),(8,1),(9,1),(10,0),(11,2),(12,2)] ze1 kR ?_;refine yM I (pU I (SU.not I) (yM I (yI I (yG I (yG I (yI I (yG I (yI I (yI I (fO I (gZ I I I dC) dC ⟨by exact zb8 _,(by exact .refl _)⟩ ?_))))))))));refine yG I (pU I (wT I I) (pN (tN (za1 I (rZ (aT I (rE (bR (tR (bR (tR ?_)))))))))));refine dR (s':=s) (.cons _ (.cons _ (.cons _ (.refl _)))) (ST.less hle13 ?_);exact za7 (.inl I) results92 I ⟨by rw[hbad],I,I⟩
  | some w =>
   rw[hf0] at hz3';have hwr:ak g w ⟨zi,zd,zp,zn,zc⟩:=hz3';have hmi0:qM A B id=decide (x=w):=by unfold qM; rw[hf0,hx]; rfl
   refine yX I (tZ (sQ (za1 I (kP (tN (bK (rZ (lK (SQ.entryP 0 I I hes hmi he hk1 hv1) (yX I (aT I (rZ (lK (qL isAgg105 I (cK (hle13 _ _ h2) I)) (lU (nC I) (lU (fA e8 I e6 I) (lK (qL fe I (cK (hle13 _ _ hbb) I)) (lM I (lK (SQ.eq (v':=.tuple #[rcv ⟨zi,zd,zp,zn,zc⟩,vb true]) (SQ.lookupOk mty125 I I (aR.known (hmb.mono hle13))) (by rw[hz1,hz2',hf0]; rfl)) ?_)))))))))))))))));refine lM I (yX I (yX I (bW (aL zl2) fun b6=>?_)));refine oZ (sK 0 ao I I I I I sB) ?_;refine aT I (sQ ?_);refine dW [] [(0,2),(1,2),(2,2),(3,1),(4,2),(5,2),(6,1),(7,2),(8,1),(9,1),(10,0),(11,2),(12,2)] ze1 kR ?_;refine yM I (pU I (SU.not I) (yM I (SP.gq I (gT I I I dC) (qL isAgg105 I (cK (hle13 _ _ h1) I)) dC (zb2 I (gT I I I dC) (nC I) dC (zb2 I (gT I I I dC) (fA e8 I e6 I) dC (SP.gq I (gT I I I dC) (qL fe I (cK (hle13 _ _ hba) I)) dC (yJ I (SP.gq I (gT I I I dC) (SQ.eq (v':=rcv ⟨yi,yd,yp,yn,yc⟩) (SQ.lookup mty125 I I (aR.known (hma.mono hle13))) (by rw[hy1])) dC ?_))))))));refine SP.gq I (gT I I I dC) (qV 0 ct ao I I I) dC (SP.go I (gT I I I dC) (SO.call call82 I (m9 E g3 _ x w ⟨yi,yd,yp,yn,yc⟩ ⟨zi,zd,zp,zn,zc⟩ (hy3'.mono hle13) (hwr.mono hle13) hxl)) dC (.inr iR) ?_);rintro _ _ _ ⟨rfl,rfl,rfl⟩;refine zb2 I (gT I I I dC) (SU.notP I) dC (pU I (wF I I) (pN (tN ?_)));refine iP I (fun hne=>?_) (fun hne=>?_)
   ·have hbad:oe A B c=false:=by
     rw[hmp,List.all_eq_false];exact⟨id,hid,by rw[hmi0]; simpa using hne⟩
    refine rZ (aT I (rE (bR (tR (bR (tR ?_))))));refine dR (s':=s) (.cons _ (.cons _ (.cons _ (.refl _)))) (ST.less hle13 ?_);exact za7 (.inl I) results92 I ⟨by rw[hbad],I,I⟩
   ·have hxw:x=w:=zg7 hne;refine kP (bN (dR (s':=iter it m es clk (vis++[e])::pt b3 (.cells #[vi c.id,vi c.dim,.slice rp c.sides.length rcap] 56 (0,0))::s) (.cons _ (.refl _)) ?_));exact ST.again (vis++[e],vl++[(id,vb true)]) sB I I ⟨hrv2,fun p hp=>by
     rcases zf1.1 hp with hp | hp
     ·exact hgood p hp
     ·simp at hp; subst hp; rw[hmi0]; simpa using hxw⟩ lN
theorem BQ (E:World)(g:PH)(s:Own)(v u:Value)(a b:List Cl)(hv:aj g v a)(hu:aj g u b)(ha:aY a)(hb:aY b) :
  Ctr Tryz.prog E 24 #[.agg #[v],.agg #[u]] g s (fun r g' s'=>s=s'∧Le g g'∧∃ x,r = .agg #[x]∧eJ (mns g' g) x (gz (ai a) (ai b))):=by
 obtain ⟨p1,c1,rfl⟩:=hv.form;obtain ⟨p2,c2,rfl⟩:=hu.form;have hfa:=dz ha;have hnA:=dZ a;refine zb1 (args:=[.agg #[.slice p1 a.length c1],.agg #[.slice p2 b.length c2]]) func24 I ntmps24 (bE I) ?_;refine rZ (bW (bO I) fun b2=>?_);refine bW (bO I) fun b3=>?_;refine bW (aL zk8) fun b4=>?_;refine tZ ?_;refine SC.cut (ι:=Nat×Nat×Value×Value×PH) (fun i=>[(2,pp b2 0),(3,pp b3 0),(4,pp b4 0),(5,pp i.1 0),(6,pp i.2.1 0)]) (fun i=>i.2.2.2.2)
  (fun i=>pt i.2.1 (.cells #[i.2.2.2.1] 105 (0,0))::pt i.1 (.cells #[i.2.2.1] 105 (0,0))::pt b4 (.cells #[.slice none 0 0] 29 (0,0))::pt b3 (.cells #[.slice p2 b.length c2] 29 (0,0))::pt b2 (.cells #[.slice p1 a.length c1] 29 (0,0))::s)
  (fun i=>Le g i.2.2.2.2∧Bc (dB (mns i.2.2.2.2 g)) i.2.2.2.2 i.2.2.1 (ai a)∧Tab i.2.2.2.2 i.2.2.2.1 (ai b)) ?_ ?_
 ·refine SC.drawX [] ze1 kR ?_;refine SX.q (i:=0) I kR (qV 2 aA an I I I) dC (SX.q (i:=2) I kR (qV 1 aA an I I I) dC ?_)
  repeat' (first
   | ((with_reducible refine SB.k 7 ?_); first | (refine SB.on (i:=7) rfl (sK 0 sizeOf105 rfl rfl rfl rfl rfl sB) (.inr (by rintro _ _ _ ⟨rfl,rfl⟩; exact⟨by exact Le.trans (by assumption) (by assumption),(by exact .cons _ (.cons _ (.refl _)))⟩)) ?_; rintro _ _ _ ⟨rfl,rfl⟩) | (refine SB.on (i:=7) rfl (sK 1 sizeOf105 rfl rfl rfl rfl rfl sB) (.inr (by rintro _ _ _ ⟨rfl,rfl⟩; exact⟨by exact Le.trans (by assumption) (by assumption),(by exact .cons _ (.cons _ (.refl _)))⟩)) ?_; rintro _ _ _ ⟨rfl,rfl⟩))
   | ((with_reducible refine SB.k 6 ?_); first | (refine SB.on (i:=6) rfl (sK 1 sizeOf105 rfl rfl rfl rfl rfl sB) (.inr (by rintro _ _ _ ⟨rfl,rfl⟩; exact⟨by exact Le.trans (by assumption) (by assumption),(by exact .cons _ (.cons _ (.refl _)))⟩)) ?_; rintro _ _ _ ⟨rfl,rfl⟩) | (refine SB.on (i:=6) rfl (sK 0 sizeOf105 rfl rfl rfl rfl rfl sB) (.inr (by rintro _ _ _ ⟨rfl,rfl⟩; exact⟨by exact Le.trans (by assumption) (by assumption),(by exact .cons _ (.cons _ (.refl _)))⟩)) ?_; rintro _ _ _ ⟨rfl,rfl⟩))
   | ((with_reducible refine SB.k 5 ?_); first | (refine SB.o (i:=5) rfl (aL zl5) dC (.inr (by rintro _ _ _ ⟨b6,rfl,rfl,rfl⟩; exact⟨by assumption,(by exact .cons _ (.refl _))⟩)) ?_; rintro _ _ _ ⟨b6,rfl,rfl,rfl⟩) | (refine SB.o (i:=5) rfl (aL zl5) dC (.inr (by rintro _ _ _ ⟨b6,rfl,rfl,rfl⟩; exact⟨by exact zb8 _,(by exact .cons _ (.refl _))⟩)) ?_; rintro _ _ _ ⟨b6,rfl,rfl,rfl⟩) | (refine SB.o (i:=5) rfl (aL zl5) dC (.inr (by rintro _ _ _ ⟨b6,rfl,rfl,rfl⟩; exact⟨by assumption,(by exact .cons _ (.cons _ (.refl _)))⟩)) ?_; rintro _ _ _ ⟨b6,rfl,rfl,rfl⟩) | (refine SB.o (i:=5) rfl (aL zl5) dC (.inr (by rintro _ _ _ ⟨b6,rfl,rfl,rfl⟩; exact⟨by exact zb8 _,(by exact .cons _ (.cons _ (.refl _)))⟩)) ?_; rintro _ _ _ ⟨b6,rfl,rfl,rfl⟩) | (refine SB.o (i:=5) rfl (aL zl5) dC (.inr (by rintro _ _ _ ⟨b6,rfl,rfl,rfl⟩; exact⟨by exact Le.trans (by assumption) (by assumption),(by exact .cons _ (.refl _))⟩)) ?_; rintro _ _ _ ⟨b6,rfl,rfl,rfl⟩) | (refine SB.o (i:=5) rfl (aL zl5) dC (.inr (by rintro _ _ _ ⟨b6,rfl,rfl,rfl⟩; exact⟨by exact Le.trans (by assumption) (by assumption),(by exact .cons _ (.cons _ (.refl _)))⟩)) ?_; rintro _ _ _ ⟨b6,rfl,rfl,rfl⟩))
   | ((with_reducible refine SB.k 4 ?_); first | (refine SB.o (i:=4) rfl (aL zl5) dC (.inr (by rintro _ _ _ ⟨b5,rfl,rfl,rfl⟩; exact⟨by assumption,(by exact .cons _ (.refl _))⟩)) ?_; rintro _ _ _ ⟨b5,rfl,rfl,rfl⟩) | (refine SB.o (i:=4) rfl (aL zl5) dC (.inr (by rintro _ _ _ ⟨b5,rfl,rfl,rfl⟩; exact⟨by exact zb8 _,(by exact .cons _ (.refl _))⟩)) ?_; rintro _ _ _ ⟨b5,rfl,rfl,rfl⟩) | (refine SB.o (i:=4) rfl (aL zl5) dC (.inr (by rintro _ _ _ ⟨b5,rfl,rfl,rfl⟩; exact⟨by assumption,(by exact .cons _ (.cons _ (.refl _)))⟩)) ?_; rintro _ _ _ ⟨b5,rfl,rfl,rfl⟩) | (refine SB.o (i:=4) rfl (aL zl5) dC (.inr (by rintro _ _ _ ⟨b5,rfl,rfl,rfl⟩; exact⟨by exact zb8 _,(by exact .cons _ (.cons _ (.refl _)))⟩)) ?_; rintro _ _ _ ⟨b5,rfl,rfl,rfl⟩) | (refine SB.o (i:=4) rfl (aL zl5) dC (.inr (by rintro _ _ _ ⟨b5,rfl,rfl,rfl⟩; exact⟨by exact Le.trans (by assumption) (by assumption),(by exact .cons _ (.refl _))⟩)) ?_; rintro _ _ _ ⟨b5,rfl,rfl,rfl⟩) | (refine SB.o (i:=4) rfl (aL zl5) dC (.inr (by rintro _ _ _ ⟨b5,rfl,rfl,rfl⟩; exact⟨by exact Le.trans (by assumption) (by assumption),(by exact .cons _ (.cons _ (.refl _)))⟩)) ?_; rintro _ _ _ ⟨b5,rfl,rfl,rfl⟩))
   | ((with_reducible refine SB.k 3 ?_); first | (refine SB.o (i:=3) rfl (SO.call call52 rfl (jC E g1 _ _ b (hu.mono hle1) hb)) dC (.inr (by rintro uv g2 _ ⟨rfl,hle2,hut⟩; exact⟨by exact Le.trans (by assumption) (by assumption),(by exact .refl _)⟩)) ?_; rintro uv g2 _ ⟨rfl,hle2,hut⟩; obtain ⟨bu,rfl⟩:=hut.ptr) | (refine SB.o (i:=3) rfl (SO.call call52 rfl (jC E g1 _ _ b (hu.mono hle1) hb)) dC (.inr (by rintro uv g2 _ ⟨rfl,hle2,hut⟩; exact⟨by exact Le.trans (by assumption) (by assumption),(by exact .cons _ (.refl _))⟩)) ?_; rintro uv g2 _ ⟨rfl,hle2,hut⟩; obtain ⟨bu,rfl⟩:=hut.ptr) | (refine SB.o (i:=3) rfl (SO.call call52 rfl (jC E g1 _ _ b (hu.mono hle1) hb)) dC (.inr (by rintro uv g2 _ ⟨rfl,hle2,hut⟩; exact⟨by exact Le.trans (by assumption) (by assumption),(by exact .cons _ (.cons _ (.refl _)))⟩)) ?_; rintro uv g2 _ ⟨rfl,hle2,hut⟩; obtain ⟨bu,rfl⟩:=hut.ptr))
   | ((with_reducible refine SB.k 1 ?_); first | (refine SB.o (i:=1) rfl (SO.call call52 rfl (tH E g _ _ a hv ha)) dC (.inr (by rintro tv g1 _ ⟨rfl,hle1,htk⟩; exact⟨by assumption,(by exact .refl _)⟩)) ?_; rintro tv g1 _ ⟨rfl,hle1,htk⟩; have ht:Tab g1 tv (ai a):=htk.mono (zb8 _) fun _ _=>dB.cr (dT _ _); obtain ⟨bt,rfl⟩:=ht.ptr) | (refine SB.o (i:=1) rfl (SO.call call52 rfl (tH E g _ _ a hv ha)) dC (.inr (by rintro tv g1 _ ⟨rfl,hle1,htk⟩; exact⟨by assumption,(by exact .cons _ (.refl _))⟩)) ?_; rintro tv g1 _ ⟨rfl,hle1,htk⟩; have ht:Tab g1 tv (ai a):=htk.mono (zb8 _) fun _ _=>dB.cr (dT _ _); obtain ⟨bt,rfl⟩:=ht.ptr) | (refine SB.o (i:=1) rfl (SO.call call52 rfl (tH E g _ _ a hv ha)) dC (.inr (by rintro tv g1 _ ⟨rfl,hle1,htk⟩; exact⟨by assumption,(by exact .cons _ (.cons _ (.refl _)))⟩)) ?_; rintro tv g1 _ ⟨rfl,hle1,htk⟩; have ht:Tab g1 tv (ai a):=htk.mono (zb8 _) fun _ _=>dB.cr (dT _ _); obtain ⟨bt,rfl⟩:=ht.ptr))
   | ((with_reducible refine SX.k 5 ?_); first | refine zd6 1 5 kD ?_ ?_ | refine zd6 1 4 kD ?_ ?_ | refine SX.br3 3 4 5 kD ?_ ?_ ?_)
   | ((with_reducible refine SX.k 4 ?_); first | refine zd5 1 kD ?_ | refine zd6 4 5 kD ?_ ?_ | refine zd6 3 5 kD ?_ ?_ | refine zd6 3 4 kD ?_ ?_)
   | ((with_reducible refine SX.k 3 ?_); first | refine zd5 5 kD ?_ | refine zd5 4 kD ?_ | refine zd5 3 kD ?_)
   | ((with_reducible refine SX.k 2 ?_); refine zd5 6 kD ?_)
   | ((with_reducible refine SX.k 1 ?_); refine zd5 7 kD ?_)
   | ((with_reducible refine SX.k 0 ?_); refine SX.nil kD ?_; first | exact za8 (b5,b6,pp bt 0,pp bu 0,g2) sB rfl rfl ⟨hle1.trans hle2,htk.mono hle2 fun _ _=>dB.mono (ge hle2),hut⟩ | (refine ST.perm (zj8 _ _ _) ?_; exact za8 (b5,b6,pp bt 0,pp bu 0,g2) sB I I ⟨hle1.trans hle2,htk.mono hle2 fun _ _=>dB.mono (ge hle2),hut⟩))
   | (refine SX.k 6 ?_; refine SX.br3 1 4 5 kD ?_ ?_ ?_))
 rintro ⟨b5,b6,tv,uv,g2⟩ ⟨hle,htk,hut⟩;dsimp only at hle htk hut ⊢;have ht:Tab g2 tv (ai a):=htk.mono (zb8 _) fun _ _=>dB.cr (dT _ _);refine SC.freeze fun g3 hl3 hb6=>?_;refine SC.freeze fun g4 hl4 hb5=>?_;have hle4:=hle.trans (hl3.trans hl4);have ht4:=ht.mono (hl3.trans hl4);have hut4:=hut.mono (hl3.trans hl4);refine rZ (lK (qL isAgg105 I (cK hb5 I)) (lU (SU.mkFunc I) (lW (SO.call call91 I (vL (dB (mns g2 g)) E g4 _ _ _ (ai a) (oe (ai a) (ai b)) (fun _ _ h=>dB.cr ((dT _ _).trans (hl3.trans hl4)) h) (htk.mono (hl3.trans hl4) fun _ _ h=>h) hnA hfa (BR E g4 b5 b6 _ _ _ _ ht4 hut4 hfa hnA hb5 (hl4 _ _ hb6)))) ?_)));rintro _ g5 _ ⟨rfl,hle5,x,rs9,rfl,hx1,hx2⟩;have hx:eJ (mns g5 g) x _:=⟨rs9,hx1.mono (ig hle4),hx2.mono fun _ _=>dB.mono (ge ((hl3.trans hl4).trans hle5))⟩;obtain ⟨q,d,rfl⟩:=hx1.form;refine oZ (sK 0 an I I I I I sB) ?_;refine tZ (rE ?_);exact ST.retCD 0 s (.inl I) results24 I aA an I I uR ⟨I,hle4.trans hle5,_,I,hx⟩
theorem Ag (E:World)(g:PH)(s:Own)(v u:Value)(a b:List Cl)(hv:aj g v a)(hu:aj g u b)(ha:aY a)(hb:aY b) :
  Ctr Tryz.prog E 24 #[.agg #[v],.agg #[u]] g s (fun r g' s'=>s=s'∧Le g g'∧∃ x,r = .agg #[x]∧aj g' x (gz (ai a) (ai b))) :=
 (BQ E g s v u a b hv hu ha hb).mono fun _ _ _ ⟨h1,h2,x,h3,h4⟩=>⟨h1,h2,x,h3,h4.cells (dT _ _)⟩
def yb (L:List (Int×List ah)):List (Int×Int):=L.foldl (fun zl p=>p.2.foldl (fun zl r=>eL zl r.cell (p.1 * r.sign)) zl) []
def CP (L:List (Int×List ah)):List (Int×List Int):=L.zipIdx.foldl (fun ml p=>p.1.2.foldl (er p.2) ml) []
def lm (L:List (Int×List ah)):Int :=
 if (yb L).any (fun p=>decide (p.2≠0)) then 24
 else if (CP L).any (fun p=>decide ((p.2.length:Int)≠2)) then 25
 else if ((iJ (cN (CP L))).length:Int)≠L.length then 25 else 0
def jA (tl:List Cl)(c:Cl):List (Int×List ah):=c.sides.map fun x=>(x.sign,aq tl x)
theorem fK (tl:List Cl)(c:Cl):a6 tl c=lm (jA tl c):=by
 have h1:eO tl c.sides=yb (jA tl c):=by
  unfold eO yb jA;rw[List.foldl_map];rfl
 have h2:em tl c.sides=CP (jA tl c):=by
  unfold em CP jA;rw[List.zipIdx_map,List.foldl_map];rfl
 have h3:(jA tl c).length=c.sides.length:=by simp[jA]
 unfold a6 lm;rw[h1,h2,h3]
def A7 (φ:Int→Int)(r:ah):ah:=⟨φ r.cell,r.sign⟩
def vq (φ:Int→Int)(L:List (Int×List ah)):List (Int×List ah):=L.map fun p=>(p.1,p.2.map (A7 φ))
def yg (L:List (Int×List ah)):List Int:=L.flatMap fun p=>p.2.map ah.cell
def kF {α:Type}(φ:Int→Int)(zl:List (Int×α)):List (Int×α):=zl.map fun p=>(φ p.1,p.2)
section
variable {φ:Int→Int}{K:Int→Prop}(hφ:∀ a b,K a→K b→φ a=φ b→a=b)
include hφ
theorem Cp {zl:List (Int×Int)}{k:Int}(x:Int)(hz:∀ p∈zl,K p.1)(hk:K k):eL (kF φ zl) (φ k) x=kF φ (eL zl k x):=by
 induction zl with
 | nil=>rfl
 | cons p r ih =>
  obtain ⟨a,z⟩:=p;have ha:=hz (a,z) (by simp);simp only[kF,zg2,eL] at ih ⊢;by_cases h:k=a
  ·subst h; simp
  ·rw[zf7 h,zf7 fun e=>h (hφ k a hk ha e)];simp only[zg2];rw[ih fun p hp=>hz p (by simp[hp])]
theorem Cr {zl:List (Int×List Int)}{k:Int}(x:Int)(hz:∀ p∈zl,K p.1)(hk:K k):fy (kF φ zl) (φ k) x=kF φ (fy zl k x):=by
 induction zl with
 | nil=>rfl
 | cons p r ih =>
  obtain ⟨a,z⟩:=p;have ha:=hz (a,z) (by simp);simp only[kF,zg2,fy] at ih ⊢;by_cases h:k=a
  ·subst h; simp
  ·rw[zf7 h,zf7 fun e=>h (hφ k a hk ha e)];simp only[zg2];rw[ih fun p hp=>hz p (by simp[hp])]
omit hφ in
theorem Cq {zl:List (Int×Int)}{k x:Int}(hz:∀ p∈zl,K p.1)(hk:K k):∀ p∈eL zl k x,K p.1:=by
 induction zl with
 | nil=>intro p hp; simp[eL] at hp; subst hp; exact hk
 | cons q r ih =>
  obtain ⟨a,z⟩:=q;have ha:=hz (a,z) (by simp);intro p hp;simp only[eL] at hp;split at hp
  ·rcases ze8.1 hp with rfl | hp
   ·exact ha
   ·exact hz p (by simp[hp])
  ·rcases ze8.1 hp with rfl | hp
   ·exact ha
   ·exact ih (fun p hp=>hz p (by simp[hp])) p hp
omit hφ in
theorem Cs {zl:List (Int×List Int)}{k x:Int}(hz:∀ p∈zl,K p.1)(hk:K k):∀ p∈fy zl k x,K p.1:=by
 induction zl with
 | nil=>intro p hp; simp[fy] at hp; subst hp; exact hk
 | cons q r ih =>
  obtain ⟨a,z⟩:=q;have ha:=hz (a,z) (by simp);intro p hp;simp only[fy] at hp;split at hp
  ·rcases ze8.1 hp with rfl | hp
   ·exact ha
   ·exact hz p (by simp[hp])
  ·rcases ze8.1 hp with rfl | hp
   ·exact ha
   ·exact ih (fun p hp=>hz p (by simp[hp])) p hp
theorem rD (t:Int):∀ (l:List ah) (zl:List (Int×Int)),(∀ r∈l,K r.cell)→(∀ p∈zl,K p.1) →
  (l.map (A7 φ)).foldl (fun zl r=>eL zl r.cell (t * r.sign)) (kF φ zl)=kF φ (l.foldl (fun zl r=>eL zl r.cell (t * r.sign)) zl)∧∀ p∈l.foldl (fun zl r=>eL zl r.cell (t * r.sign)) zl,K p.1
 | [],zl,_,hz=>⟨rfl,hz⟩
 | r::l,zl,hl,hz=>by
  have hr:=hl r (by simp);have:=rD t l (eL zl r.cell (t * r.sign)) (fun q hq=>hl q (by simp[hq])) (Cq hz hr);simp only[zg2,zi6];rw[show (A7 φ r).cell=φ r.cell from rfl,show (A7 φ r).sign=r.sign from rfl,Cp hφ _ hz hr];exact this
theorem vP (t:Int):∀ (l:List ah) (zl:List (Int×List Int)),(∀ r∈l,K r.cell)→(∀ p∈zl,K p.1) →
  (l.map (A7 φ)).foldl (er t) (kF φ zl)=kF φ (l.foldl (er t) zl)∧∀ p∈l.foldl (er t) zl,K p.1
 | [],zl,_,hz=>⟨rfl,hz⟩
 | r::l,zl,hl,hz=>by
  have hr:=hl r (by simp);have:=vP t l (fy zl r.cell t) (fun q hq=>hl q (by simp[hq])) (Cs hz hr);simp only[zg2,zi6];rw[show er t (kF φ zl) (A7 φ r)=kF φ (fy zl r.cell t) from Cr hφ _ hz hr];exact this
theorem vw:∀ (L:List (Int×List ah)) (zl:List (Int×Int)),(∀ k∈yg L,K k)→(∀ p∈zl,K p.1) →
  (vq φ L).foldl (fun zl p=>p.2.foldl (fun zl r=>eL zl r.cell (p.1 * r.sign)) zl) (kF φ zl)=kF φ (L.foldl (fun zl p=>p.2.foldl (fun zl r=>eL zl r.cell (p.1 * r.sign)) zl) zl)
 | [],_,_,_=>rfl
 | p::L,zl,hl,hz=>by
  obtain ⟨h1,h2⟩:=rD hφ p.1 p.2 zl (fun r hr=>hl _ (List.mem_flatMap.2 ⟨p,by simp,ze9.2 ⟨r,hr,rfl⟩⟩)) hz;simp only[vq,zg2,zi6] at h1 ⊢;rw[h1];exact vw L _ (fun k hk=>hl k (by simp only[yg,zh3,zf1]; exact .inr hk)) h2
theorem yV:∀ (L:List (Int×List ah)) (i:Nat) (zl:List (Int×List Int)),(∀ k∈yg L,K k)→(∀ p∈zl,K p.1) →
  ((vq φ L).zipIdx i).foldl (fun ml p=>p.1.2.foldl (er p.2) ml) (kF φ zl)=kF φ ((L.zipIdx i).foldl (fun ml p=>p.1.2.foldl (er p.2) ml) zl)
 | [],_,_,_,_=>rfl
 | p::L,i,zl,hl,hz=>by
  obtain ⟨h1,h2⟩:=vP hφ i p.2 zl (fun r hr=>hl _ (List.mem_flatMap.2 ⟨p,by simp,ze9.2 ⟨r,hr,rfl⟩⟩)) hz;simp only[vq,zg2,List.zipIdx_cons,zi6] at h1 ⊢;rw[h1];exact yV L (i+1) _ (fun k hk=>hl k (by simp only[yg,zh3,zf1]; exact .inr hk)) h2
end
theorem zx {α:Type}(φ:Int→Int)(zl:List (Int×α))(q:α→Bool):(kF φ zl).any (fun p=>q p.2)=zl.any (fun p=>q p.2):=by
 simp only[kF,List.any_map];rfl
theorem BX (φ:Int→Int)(ml:List (Int×List Int)):cN (kF φ ml)=cN ml:=by
 simp only[cN,kF,List.foldl_map];rfl
theorem vd {φ:Int→Int}{L:List (Int×List ah)}(hφ:∀ a∈yg L,∀ b∈yg L,φ a=φ b→a=b):lm (vq φ L)=lm L:=by
 have h1:yb (vq φ L)=kF φ (yb L):=vw (K:=fun k=>k∈yg L) (fun a b ha hb=>hφ a ha b hb) L [] (fun _ h=>h) (by simp);have h2:CP (vq φ L)=kF φ (CP L):=yV (K:=fun k=>k∈yg L) (fun a b ha hb=>hφ a ha b hb) L 0 [] (fun _ h=>h) (by simp);unfold lm;rw[h1,h2,zx φ _ fun z=>decide (z≠0),zx φ _ fun l:List Int=>decide ((l.length:Int)≠2),BX];have h3:(vq φ L).length=L.length:=by simp[vq]
 rw[h3]
def code (k q:Nat):Int:=if q<k then ((q * 16+k:Nat):Int) else ((k * 16+(q+1):Nat):Int)
def Ee (n:Nat):List (Int×List ah):=(List.range n).reverse.map fun k:Nat=>(cz k,(List.range (n - 1)).reverse.map fun q:Nat=>⟨code k q,cz q⟩)
theorem Dz:∀ n,n<10→2<n→lm (Ee n)=0:=by decide +kernel
theorem gS (b:Nat)(a:Int)(l:List Int):dX b (a::l)=(if b % 2=1 then [a] else [])++dX (b / 2) l:=by
 unfold dX;have hz:∀ (l:List Int) (i:Nat),((l.zipIdx (i+1)).filter fun p=>b / 2 ^ p.2 % 2 == 1).map (·.1)=((l.zipIdx i).filter fun p=>b / 2 / 2 ^ p.2 % 2 == 1).map (·.1):=by
  intro l;induction l with
  | nil=>intro i; rfl
  | cons x r ih =>
   intro i;have hp:b / 2 ^ (i+1)=b / 2 / 2 ^ i:=by rw[Nat.pow_succ,Nat.mul_comm,Nat.div_div_eq_div_mul]
   simp only[List.zipIdx_cons,zi5,hp];have:=ih (i+1);split
   ·simp only[zg2,this]
   ·exact this
 simp only[List.zipIdx_cons,zi5,Nat.pow_zero,Nat.div_one];by_cases h:b % 2=1
 ·simp only[h,if_true,beq_self_eq_true,zg2];rw[hz l 0];rfl
 ·have h2:(b % 2 == 1)=false:=by simpa using h
  simp only[h,h2,if_false,Bool.false_eq_true];rw[hz l 0];rfl
theorem z7 (l:List Int):∀ b,(dX b l).Sublist l:=by
 induction l with
 | nil=>intro b; exact .slnil
 | cons a r ih =>
  intro b;rw[gS];split
  ·exact (ih _).cons_cons a
  ·exact (ih _).cons a
theorem BF (l:List Int):∀ b,b≠0→b<2 ^ l.length→dX b l≠[]:=by
 induction l with
 | nil=>intro b h0 h; simp at h; exact absurd h h0
 | cons a r ih =>
  intro b h0 h;rw[gS];split
  ·simp
  ·rename_i h1;rw[ze6,Nat.pow_succ] at h;simpa using ih (b / 2) oM oM
theorem uo {x l:List Int}(h:x.Sublist l):∃ b,b<2 ^ l.length∧dX b l=x:=by
 induction h with
 | slnil=>exact⟨0,by simp,rfl⟩
 | cons a _ ih =>
  obtain ⟨b,hb,e⟩:=ih;refine⟨2 * b,by rw[ze6,Nat.pow_succ]; omega,?_⟩;rw[gS,zf7 oM,show 2 * b / 2=b by omega,e];rfl
 | cons_cons a _ ih =>
  obtain ⟨b,hb,e⟩:=ih;refine⟨2 * b+1,by rw[ze6,Nat.pow_succ]; omega,?_⟩;rw[gS,zf8 oM,show (2 * b+1) / 2=b by omega,e];rfl
theorem jj (t x:List Int):x∈br t↔x.Sublist t∧x≠[]:=by
 unfold br;constructor
 ·intro h;obtain ⟨i,hi,rfl⟩:=ze9.1 h;have:=List.mem_range.1 hi;exact⟨z7 _ _,BF _ _ oM oM⟩
 ·rintro ⟨h,hne⟩;obtain ⟨b,hb,rfl⟩:=uo h;have h0:b≠0:=fun e=>by
   subst e;apply hne;have:∀ l:List Int,dX 0 l=[]:=by
    intro l;induction l with
    | nil=>rfl
    | cons a r ih=>rw[gS]; simpa using ih
   exact this t
  exact ze9.2 ⟨b - 1,List.mem_range.2 oM,by rw[show b - 1+1=b by omega]⟩
structure gv (all:List (List Int)):Prop where
 strict:eh all
 form:∀ s∈all,s≠[]∧dv s∧s.length≤9
 faces:∀ s∈all,2≤s.length→∀ k,k<s.length→s.eraseIdx k∈all
theorem gv.nil:gv []:=⟨List.Pairwise.nil,by simp,by simp⟩
theorem gv.add {all:List (List Int)}{t:List Int}(h:gv all)(ht:dv t)(hl:t.length≤9):gv (dM all t):=by
 refine⟨jL all t,fun s hs=>?_,fun s hs h2 k hk=>?_⟩
 ·rcases (iy all t s).1 hs with h1 | h1
  ·exact h.form s h1
  ·obtain ⟨h2,h3⟩:=(jj t s).1 h1;exact⟨h3,ht.sublist h2,zk5 h2.length_le hl⟩
 ·refine (iy all t _).2 ?_
  rcases (iy all t s).1 hs with h1 | h1
  ·exact .inl (h.faces s h1 h2 k hk)
  ·refine .inr ((jj t _).2 ⟨(List.eraseIdx_sublist s k).trans ((jj t s).1 h1).1,fun e=>?_⟩);have:=zd9 List.length e;rw[List.length_eraseIdx] at this;simp[hk] at this;omega
theorem gn:∀ (ls acc:List (List Int)) {all:List (List Int)},aV acc ls=some all→gv acc→acc.length≤4000→gv all∧all.length≤4000
 | [],acc,all,h,hg,hl=>by cases h; exact⟨hg,hl⟩
 | s::r,acc,all,h,hg,hl=>by
  unfold aV at h;split at h
  ·exact gn r acc h hg hl
  ·rename_i hb;split at h
   ·cases h
   ·rename_i hlen;refine gn r _ h (hg.add (jV s) ?_) oM;cases hc:cG s with
    | nil=>simp
    | cons a q =>
     rw[hc] at hb;simp[iM] at hb;simp;omega
section
variable {all:List (List Int)}(hg:gv all)
include hg
theorem gv.get_lb {t:List Int}(ht:t∈all):all[lbL all t]?=some t:=by
 obtain ⟨h1,h2⟩:=nf t hg.strict.srt;have hs:eh (all.take (lbL all t)++all.drop (lbL all t)):=by rw[zi9]; exact hg.strict
 have hd:=(List.pairwise_append.1 hs).2.1;have hm:t∈all.drop (lbL all t):=by
  have:t∈all.take (lbL all t)++all.drop (lbL all t):=by rw[zi9]; exact ht
  rcases zf1.1 this with h | h
  ·have:=h1 t h;rw[bP] at this;exact absurd this dC
  ·exact h
 have e:all[lbL all t]?=(all.drop (lbL all t))[0]?:=by simp
 rw[e];cases hc:all.drop (lbL all t) with
 | nil=>rw[hc] at hm; simp at hm
 | cons y r =>
  rw[hc] at hm hd h2
  rcases ze8.1 hm with rfl | hm
  ·rfl
  ·exact absurd ((zk1.1 hd).1 t hm) (h2 y (by simp))
theorem gv.lb_get {k:Nat}(hk:k<all.length):lbL all all[k]=k:=by
 have h1:=hg.get_lb (gM hk);obtain ⟨h2,h3⟩:=zf3.1 h1;have hself:¬ ap all[k] all[k]<0:=by rw[bP]; decide
 rcases Nat.lt_trichotomy (lbL all all[k]) k with h | h | h
 ·have:=zc8.1 hg.strict _ _ h2 hk h;rw[h3] at this;exact absurd this hself
 ·exact h
 ·have:=zc8.1 hg.strict _ _ hk h2 h;rw[h3] at this;exact absurd this hself
end
def ixC (all:List (List Int))(t:List Int):Int:=((lbL all t:Nat):Int)+1
theorem gv.inj {all:List (List Int)}(hg:gv all){t u:List Int}(ht:t∈all)(hu:u∈all)(h:ixC all t=ixC all u):t=u:=by
 have h1:=hg.get_lb ht;have h2:=hg.get_lb hu;have:lbL all t=lbL all u:=by unfold ixC at h; omega
 rw[this,h2] at h1;injection h1 with h1
 exact h1.symm
theorem gv.lt {all:List (List Int)}(hg:gv all){t u:List Int}(ht:t∈all)(hu:u∈all)(h:ap t u<0):ixC all t<ixC all u:=by
 obtain ⟨i1,e1⟩:=zf3.1 (hg.get_lb ht);obtain ⟨i2,e2⟩:=zf3.1 (hg.get_lb hu);unfold ixC
 rcases Nat.lt_trichotomy (lbL all t) (lbL all u) with h1 | h1 | h1
 ·omega
 ·have:t=u:=hg.inj ht hu (by unfold ixC; omega);subst this;rw[bP] at h;exact absurd h dC
 ·have:=zc8.1 hg.strict _ _ i2 i1 h1;rw[e1,e2] at this;exact absurd h (gH this)
def eW (all:List (List Int))(s:List Int):List ah:=if s.length≤1 then [] else (List.range s.length).reverse.map fun k:Nat=>⟨ixC all (s.eraseIdx k),cz k⟩
def ic (all:List (List Int))(s:List Int):Cl:=⟨ixC all s,(s.length:Int) - 1,eW all s⟩
theorem wh {s:List Int}(hs:dv s):∀ {i j:Nat},i<j→j<s.length→ap (s.eraseIdx j) (s.eraseIdx i)<0:=by
 induction s with
 | nil=>intro i j _ h; simp at h
 | cons a r ih =>
  intro i j hij hj;obtain ⟨h1,h2⟩:=zk1.1 hs;cases j with
  | zero=>omega
  | succ j =>
   simp only[ze6] at hj;cases i with
   | zero =>
    cases r with
    | nil=>simp at hj
    | cons b q =>
     have hab:=h1 b (by simp);have hl:((a::b::q).eraseIdx (j+1)).length=((a::b::q).eraseIdx 0).length:=by
      simp[List.length_eraseIdx] at hj ⊢;omega
     rw[fG hl];simp only[List.eraseIdx_cons_succ,List.eraseIdx_cons_zero,fV];have:fZ a b = -1:=by unfold fZ; rw[zf8 hab]
     simp[this]
   | succ i =>
    have h3:=ih h2 (i:=i) (j:=j) oM oM;have hl:(r.eraseIdx j).length=(r.eraseIdx i).length:=by
     rw[List.length_eraseIdx,List.length_eraseIdx,zf8 oM,zf8 oM]
    have hl2:((a::r).eraseIdx (j+1)).length=((a::r).eraseIdx (i+1)).length:=by simp[hl]
    rw[fG hl] at h3;rw[fG hl2];simp only[List.eraseIdx_cons_succ,fV];have:fZ a a=0:=by unfold fZ; rw[zf7 oM,zf7 oM]
    simpa [this] using h3
theorem mH {A:List Cl}(h:(A.map Cl.id).Nodup){x:Cl}(hx:x∈A):ab A x.id=some x:=by
 induction A with
 | nil=>simp at hx
 | cons c t ih =>
  simp only[zg2,zj9] at h;unfold ab
  rcases ze8.1 hx with rfl | hx
  ·simp
  ·have hne:¬ c.id=x.id:=fun e=>h.1 (by rw[e]; exact ze9.2 ⟨x,hx,I⟩);rw[zi4];simp only[hne,decide_false];exact ih h.2 hx
theorem xh (c:Cl):bo (bo c)=bo c:=by
 unfold bo;rw[← a8 (bQ c.sides) (aw.refl _)]
theorem ix (l:List Cl):aa (aa l)=aa l:=by
 have h1:sortBy Cl.id (aa l)=aa l:=(a8 (gV l) (aw.refl _)).symm;show (sortBy Cl.id (aa l)).map bo=aa l;rw[h1];unfold aa;rw[zi3];exact zc7 fun c _=>xh c
theorem Bt {α:Type}{key:α→Int}{l:List α}(h:l.Pairwise fun a b=>key b<key a):sortBy key l=l.reverse:=by
 refine (a8 ?_ ⟨by simp,fun c=>?_⟩).symm
 ·unfold Srt;rw[List.pairwise_reverse];exact h.imp fun h=>by omega
 ·rw[List.filter_reverse];have:∀ m:List α,m.Pairwise (fun a b=>key b<key a)→(∀ a∈m,(key a == c)=true)→m.reverse=m:=by
   intro m hm hc
   match m,hm,hc with
   | [],_,_=>rfl
   | [_],_,_=>rfl
   | a::b::r,hm,hc =>
    have h1:=(zk1.1 hm).1 b (by simp);have h2:=hc a (by simp);have h3:=hc b (by simp);simp at h2 h3;omega
  exact this _ (h.sublist List.filter_sublist) fun a ha=>(zh2.1 ha).2
section
variable {all:List (List Int)}(hg:gv all)
include hg
theorem gv.face {s:List Int}(hs:s∈all){k:Nat}(hk:k<s.length)(h2:2≤s.length):s.eraseIdx k∈all∧(s.eraseIdx k).length=s.length - 1 :=
 ⟨hg.faces s hs h2 k hk,by rw[List.length_eraseIdx,zf8 hk]⟩
theorem gv.sides {s:List Int}(hs:s∈all):sortBy ah.cell (aO all s s.length)=eW all s:=by
 have hne:=(hg.form s hs).1;have hst:=(hg.form s hs).2.1;by_cases h1:s.length≤1
 ·have h0:s.length=1:=by have:=List.length_pos_iff.2 hne; omega
  unfold eW;rw[zf8 h1,h0];have:eV all s 0=[]:=by
   unfold eV;have h3:(s.eraseIdx 0).length=0:=by rw[List.length_eraseIdx,zf8 oM]; omega
   rw[zf7 oM]
  simp[aO,List.range_succ,this,sortBy]
 ·have h2:2≤s.length:=oM;have e:aO all s s.length=(List.range s.length).map fun k:Nat=>(⟨ixC all (s.eraseIdx k),cz k⟩:ah):=by
   unfold aO;rw[List.flatMap_def];have:(List.range s.length).map (eV all s)=(List.range s.length).map fun k:Nat=>[(⟨ixC all (s.eraseIdx k),cz k⟩:ah)]:=zc7 fun k hk=>by
    have hk:=List.mem_range.1 hk;unfold eV;rw[(hg.face hs hk h2).2,zf8 oM];rfl
   rw[this];generalize List.range s.length=R;induction R with
   | nil=>rfl
   | cons x r ih=>simp only[zg2,List.flatten_cons,ih]; rfl
  unfold eW;rw[zf7 h1,e,List.map_reverse];refine Bt ?_;rw[zk2];refine List.Pairwise.imp_of_mem ?_ (List.pairwise_lt_range (n:=s.length));intro i j hi hj hij;have hi:=List.mem_range.1 hi;have hj:=List.mem_range.1 hj;exact hg.lt (hg.face hs hj h2).1 (hg.face hs hi h2).1 (wh hst hij hj)
theorem gv.cells:aa (a7 all)=all.map (ic all):=by
 rw[pG];apply List.ext_getElem?;intro k;simp only[zh7];by_cases hk:k<all.length
 ·rw[iD hk,List.getElem?_eq_getElem hk];simp only[Option.map_some,zg5];unfold bo mA ic;simp only[hg.sides (gM hk),ixC,hg.lb_get hk]
 ·rw[List.getElem?_eq_none (by rw[bn]; omega),List.getElem?_eq_none oM];rfl
theorem gv.ids:((all.map (ic all)).map Cl.id).Pairwise (· < ·):=by
 rw[zi3,zk2];refine List.Pairwise.imp_of_mem ?_ hg.strict;intro a b ha hb h;exact hg.lt ha hb h
theorem gv.find {s:List Int}(hs:s∈all):ab (all.map (ic all)) (ixC all s)=some (ic all s) :=
 mH (x:=ic all s) (hg.ids.imp fun h=>by omega) (ze9.2 ⟨s,hs,rfl⟩)
end
theorem zR (k:Nat):cz k=1∨cz k = -1:=by unfold cz; omega
theorem px {all:List (List Int)}{s:List Int}(h:2≤s.length){i:Nat}(hi:i<s.length):(eW all s)[i]?=some ⟨ixC all (s.eraseIdx (s.length - 1 - i)),cz ((s.length - 1 - i:Nat):Int)⟩:=by
 unfold eW;rw[zf7 oM,zh7,List.getElem?_reverse (by simpa using hi)];simp only[zi2];rw[List.getElem?_range oM];rfl
theorem qY {all:List (List Int)}{s:List Int}:(eW all s).length=if s.length≤1 then 0 else s.length:=by
 unfold eW;split <;> simp
section
variable {all:List (List Int)}(hg:gv all)
include hg
theorem gv.formOk {s:List Int}(hs:s∈all):bV (all.map (ic all)) (ic all s)=0:=by
 obtain ⟨hne,hst,h9⟩:=hg.form s hs;have hp:=List.length_pos_iff.2 hne;have hlen:(ic all s).sides.length=if s.length≤1 then 0 else s.length:=qY
 have hdim:(ic all s).dim=(s.length:Int) - 1:=rfl;have h1:eY (ic all s)=false:=by unfold eY; rw[hdim]; simp; omega
 have h2:aU (ic all s)=false:=by
  unfold aU;rw[hdim,hlen];split
  ·simp; omega
  ·simp; omega
 have h3:(List.range (ic all s).sides.length).any (il (all.map (ic all)) (ic all s))=false:=by
  rw[zk3];intro i hi;have hi:=List.mem_range.1 hi;rw[hlen] at hi;split at hi
  ·omega
  ·rename_i hl;have h2:2≤s.length:=oM;have hgi:=px (all:=all) h2 hi;have hf:=hg.face hs (k:=s.length - 1 - i) oM h2;unfold il;rw[show (ic all s).sides[i]?=_ from hgi];show ¬ bL _ _ i ⟨ixC all (s.eraseIdx (s.length - 1 - i)),_⟩=true;unfold bL;dsimp only;rw[hg.find hf.1];have hd:(ic all (s.eraseIdx (s.length - 1 - i))).dim=(ic all s).dim - 1:=by
    show ((s.eraseIdx (s.length - 1 - i)).length:Int) - 1=(s.length:Int) - 1 - 1;rw[hf.2];omega
   simp only[Option.isSome_some,Bool.not_true,Bool.false_or,Option.getD_some,hd,ne_eq,not_true_eq_false,decide_false];by_cases hi0:i>0
   ·have hgp:=px (all:=all) h2 (i:=i - 1) oM;rw[show (ic all s).sides[i - 1]?=_ from hgp];have hf2:=hg.face hs (k:=s.length - 1 - (i - 1)) oM h2;have:=hg.lt hf2.1 hf.1 (wh hst oM oM);simp;omega
   ·simp[hi0]
 have h4:(ic all s).sides.any bB=false:=by
  rw[zk3];intro x hx;show ¬ bB x=true;have hx:x∈eW all s:=hx;unfold eW at hx;split at hx
  ·simp at hx
  ·obtain ⟨k,_,rfl⟩:=ze9.1 hx
   rcases zR k with h | h <;> simp[bB,h]
 have h5:(decide ((ic all s).dim=1)&&decide (mo (ic all s).sides≠0))=false:=by
  by_cases hd:(ic all s).dim=1
  ·rw[hdim] at hd;have hl2:s.length=2:=oM;have:mo (ic all s).sides=0:=by
    show mo (eW all s)=0;unfold eW;rw[zf7 oM,hl2];simp[List.range_succ,mo,cz]
   rw[this];simp
  ·simp[hd]
 unfold bV;rw[h1,h2,h3,h4,h5];rfl
end
theorem xF (s:List Int):∀ {k q:Nat},k≤q→(s.eraseIdx k).eraseIdx q=(s.eraseIdx (q+1)).eraseIdx k:=by
 induction s with
 | nil=>intro k q _; rfl
 | cons a r ih =>
  intro k q h;cases k with
  | zero=>simp
  | succ k =>
   cases q with
   | zero=>omega
   | succ q =>
    simp only[List.eraseIdx_cons_succ];rw[ih oM]
theorem o5 {s:List Int}(hs:s.Nodup){a b i:Nat}(hab:a<b)(hb:b<s.length)(hi:i<s.length):s[i]∈(s.eraseIdx b).eraseIdx a↔i≠a∧i≠b:=by
 have hinj:∀ {j k:Nat} (hj:j<s.length) (hk:k<s.length),s[j]=s[k]→j=k:=fun {j k} hj hk e=>by
  rcases Nat.lt_trichotomy j k with h | h | h
  ·exact absurd e (zc8.1 hs j k hj hk h)
  ·exact h
  ·exact absurd e.symm (zc8.1 hs k j hk hj h)
 rw[List.mem_eraseIdx_iff_getElem];constructor
 ·rintro ⟨j,hj1,hj2,e⟩;have hj1':=hj1;rw[List.length_eraseIdx,zf8 hb] at hj1';rw[List.getElem_eraseIdx] at e;split at e
  ·have:=hinj _ _ e;omega
  ·have:=hinj _ _ e;omega
 ·rintro ⟨h1,h2⟩
  rcases Nat.lt_or_ge i b with h | h
  ·refine⟨i,by rw[List.length_eraseIdx,zf8 hb]; omega,h1,?_⟩;rw[List.getElem_eraseIdx,dif_pos h]
  ·refine⟨i - 1,by rw[List.length_eraseIdx,zf8 hb]; omega,oM,?_⟩;rw[List.getElem_eraseIdx,dif_neg oM];congr 1;omega
theorem xG {s:List Int}(hs:s.Nodup){a b c d:Nat}(hab:a<b)(hb:b<s.length)(hcd:c<d)(hd:d<s.length)(h:(s.eraseIdx b).eraseIdx a=(s.eraseIdx d).eraseIdx c):a=c∧b=d:=by
 have key:∀ i,i<s.length→((i≠a∧i≠b)↔(i≠c∧i≠d)):=fun i hi=>by
  rw[← o5 hs hab hb hi,← o5 hs hcd hd hi,h]
 have ha:=key a oM;have hb':=key b hb;have hc:=key c oM;have hd':=key d hd;omega
def EQ (all:List (List Int))(s:List Int)(c:Int):Int:=ixC all ((s.eraseIdx (c % 16).toNat).eraseIdx (c / 16).toNat)
theorem zj {n k q:Nat}(hk:k<n)(hq:q<n - 1):∃ a b:Nat,a<b∧b<n∧code k q=((a * 16+b:Nat):Int)∧((q<k∧a=q∧b=k)∨(k≤q∧a=k∧b=q+1)):=by
 unfold code;by_cases h:q<k
 ·rw[zf8 h]; exact⟨q,k,h,hk,I,.inl ⟨h,I,I⟩⟩
 ·rw[zf7 h]; exact⟨k,q+1,oM,oM,I,.inr ⟨oM,I,I⟩⟩
theorem je {a b:Nat}(h:b<16):((((a * 16+b:Nat):Int) % 16).toNat=b)∧((((a * 16+b:Nat):Int) / 16).toNat=a):=oM
section
variable {all:List (List Int)}(hg:gv all)
include hg
theorem gv.aroundOk {s:List Int}(hs:s∈all)(h3:2<s.length):a6 (all.map (ic all)) (ic all s)=0:=by
 obtain ⟨hne,hst,h9⟩:=hg.form s hs;have hnd:s.Nodup:=hst.imp fun h=>by omega
 have hE:∀ a b,a<b→b<s.length→(s.eraseIdx b).eraseIdx a∈all:=fun a b hab hb=>by
  have h1:=hg.face hs (k:=b) hb oM;exact (hg.face h1.1 (k:=a) (by rw[h1.2]; omega) (by rw[h1.2]; omega)).1
 have hlook:jA (all.map (ic all)) (ic all s)=vq (EQ all s) (Ee s.length):=by
  unfold jA vq Ee;show (eW all s).map _=_;unfold eW;rw[zf7 oM,zi3,zi3];refine zc7 fun k hk=>?_;have hk:k<s.length:=by simpa using hk
  have hf:=hg.face hs hk oM;simp only[Function.comp_def];congr 1;unfold aq;rw[hg.find hf.1];show eW all (s.eraseIdx k)=_;unfold eW;rw[hf.2,zf7 oM,zi3];refine zc7 fun q hq=>?_;have hq:q<s.length - 1:=by simpa using hq
  obtain ⟨a,b,hab,hb,hc,hcase⟩:=zj hk hq;simp only[Function.comp_def,A7];congr 1;unfold EQ;rw[hc,(je (a:=a) (b:=b) oM).1,(je (a:=a) (b:=b) oM).2]
  rcases hcase with ⟨_,rfl,rfl⟩ | ⟨h,rfl,rfl⟩
  ·rfl
  ·rw[xF s h]
 rw[fK,hlook,vd,Dz _ oM h3];have hkey:∀ x∈yg (Ee s.length),∃ a b:Nat,a<b∧b<s.length∧x=((a * 16+b:Nat):Int):=by
  intro x hx;obtain ⟨p,hp,hx⟩:=List.mem_flatMap.1 hx;obtain ⟨k,hk,rfl⟩:=ze9.1 hp;obtain ⟨r,hr,rfl⟩:=ze9.1 hx;obtain ⟨q,hq,rfl⟩:=ze9.1 hr;obtain ⟨a,b,hab,hb,hc,_⟩:=zj (n:=s.length) (k:=k) (q:=q) (by simpa using hk) (by simpa using hq);exact⟨a,b,hab,hb,hc⟩
 intro x hx y hy h;obtain ⟨a,b,hab,hb,rfl⟩:=hkey x hx;obtain ⟨c,d,hcd,hd,rfl⟩:=hkey y hy;unfold EQ at h;rw[(je (a:=a) (b:=b) oM).1,(je (a:=a) (b:=b) oM).2,(je (a:=c) (b:=d) oM).1,(je (a:=c) (b:=d) oM).2] at h;obtain ⟨rfl,rfl⟩:=xG hnd hab hb hcd hd (hg.inj (hE a b hab hb) (hE c d hcd hd) h);rfl
end
theorem sw {tl:List Cl}:∀ {l:List Cl} {n:Int},(∀ x∈l,n<x.id)→l.Pairwise (fun a b=>a.id<b.id)→(∀ x∈l,bV tl x=0)→gt tl l n=none
 | [],_,_,_,_=>rfl
 | x::r,n,h1,h2,h3=>by
  have hx:=h1 x (by simp);obtain ⟨h4,h5⟩:=zk1.1 h2;unfold gt;rw[zf7 oM,zf7 (by rw[h3 x (by simp)]; simp)];exact sw h4 h5 fun y hy=>h3 y (by simp[hy])
theorem su {tl:List Cl}:∀ {l:List Cl},(∀ x∈l,x.dim>1→a6 tl x=0)→mM tl l=none
 | [],_=>rfl
 | x::r,h=>by
  unfold mM;rw[zf7 fun ⟨h1,h2⟩=>h2 (h x (by simp) h1)];exact su fun y hy=>h y (by simp[hy])
theorem wj {l:List Cl}(h0:l.length≤4000)(h1:∀ x∈aa l,0<x.id)(h2:(aa l).Pairwise fun a b=>a.id<b.id)(h3:∀ x∈aa l,bV (aa l) x=0)(h4:∀ x∈aa l,x.dim>1→a6 (aa l) x=0):au l=(0,0):=by
 unfold au;rw[zf7 oM,bD h2,sw h1 h2 h3,su h4];rfl
theorem ue (ls:List (List Int)):au (cy ls)=(0,0):=by
 unfold cy;cases h:aV [] ls with
 | none=>rfl
 | some all =>
  obtain ⟨hg,hl⟩:=gn ls [] h gv.nil (by simp);dsimp only;have hc:aa (aa (a7 all))=all.map (ic all):=by rw[ix,hg.cells]
  have hi:=hg.ids;rw[zk2] at hi;refine wj (by rw[hg.cells]; simpa using hl) ?_ ?_ ?_ ?_ <;> rw[hc]
  ·intro x hx;obtain ⟨s,_,rfl⟩:=ze9.1 hx;show 0<ixC all s;unfold ixC;omega
  ·exact hi
  ·intro x hx;obtain ⟨s,hs,rfl⟩:=ze9.1 hx;exact hg.formOk hs
  ·intro x hx hd;obtain ⟨s,hs,rfl⟩:=ze9.1 hx;refine hg.aroundOk hs ?_;have:(s.length:Int) - 1>1:=hd;omega
open Go.ChangeShapes Go.WideShapes Go.ChangeAt Go.RowKit
set_option maxRecDepth 100000
section
variable {H:Type}{enc:TypeId×Value→H}{W:World}{base:Nat}{spare:Nat→Bool}{hd:Bool}
end
inductive Cn (E:Int→Int→Prop):Int→Int→Prop
 | refl (a:Int):Cn E a a
 | step {a b c:Int} (h:E a b∨E b a) (r:Cn E b c):Cn E a c
theorem Cn.trans {E:Int→Int→Prop}{a b c:Int}(h:Cn E a b)(k:Cn E b c):Cn E a c:=by
 induction h with
 | refl _=>exact k
 | step h _ ih=>exact .step h (ih k)
theorem Cn.one {E:Int→Int→Prop}{a b:Int}(h:E a b):Cn E a b:=.step (.inl h) (.refl b)
theorem Cn.symm {E:Int→Int→Prop}{a b:Int}(h:Cn E a b):Cn E b a:=by
 induction h with
 | refl _=>exact .refl _
 | step h _ ih=>exact ih.trans (.step h.symm (.refl _))
theorem Cn.mono {E E':Int→Int→Prop}(h:∀ a b,E a b→Cn E' a b){a b:Int}(hc:Cn E a b):Cn E' a b:=by
 induction hc with
 | refl _=>exact .refl _
 | step e _ ih =>
  rcases e with e | e
  ·exact (h _ _ e).trans ih
  ·exact (h _ _ e).symm.trans ih
theorem Cn.iso {E:Int→Int→Prop}{a b:Int}(h:∀ b,¬ E a b∧¬ E b a)(hc:Cn E a b):a=b:=by
 cases hc with
 | refl _=>rfl
 | step e _ =>
  rcases e with e | e
  ·exact absurd e (h _).1
  ·exact absurd e (h _).2
theorem Cn.add {E E':Int→Int→Prop}{x y:Int}(h:∀ a b,E' a b↔E a b∨(a=x∧b=y))(a b:Int):Cn E' a b↔Cn E a b∨(Cn E a x∧Cn E y b)∨(Cn E a y∧Cn E x b):=by
 have hxy:Cn E' x y:=.one ((h x y).2 (.inr ⟨rfl,rfl⟩));have hm:∀ {a b:Int},Cn E a b→Cn E' a b:=fun hc=>hc.mono fun a b e=>.one ((h a b).2 (.inl e));constructor
 ·intro hc;induction hc with
  | refl _=>exact .inl (.refl _)
  | step e _ ih =>
   have key:∀ {p q r:Int},Cn E p q→(Cn E q r∨(Cn E q x∧Cn E y r)∨(Cn E q y∧Cn E x r))→Cn E p r∨(Cn E p x∧Cn E y r)∨(Cn E p y∧Cn E x r):=by
    rintro p q r h1 (h2 | ⟨h2,h3⟩ | ⟨h2,h3⟩)
    ·exact .inl (h1.trans h2)
    ·exact .inr (.inl ⟨h1.trans h2,h3⟩)
    ·exact .inr (.inr ⟨h1.trans h2,h3⟩)
   rcases e with e | e
   ·rcases (h _ _).1 e with e | ⟨rfl,rfl⟩
    ·exact key (.one e) ih
    ·rcases ih with h2 | ⟨_,h3⟩ | ⟨_,h3⟩
     ·exact .inr (.inl ⟨.refl _,h2⟩)
     ·exact .inr (.inl ⟨.refl _,h3⟩)
     ·exact .inl h3
   ·rcases (h _ _).1 e with e | ⟨rfl,rfl⟩
    ·exact key (Cn.one e).symm ih
    ·rcases ih with h2 | ⟨_,h3⟩ | ⟨_,h3⟩
     ·exact .inr (.inr ⟨.refl _,h2⟩)
     ·exact .inl h3
     ·exact .inr (.inr ⟨.refl _,h3⟩)
 ·rintro (h1 | ⟨h1,h2⟩ | ⟨h1,h2⟩)
  ·exact hm h1
  ·exact (hm h1).trans (hxy.trans (hm h2))
  ·exact (hm h1).trans (hxy.symm.trans (hm h2))
def dL (ml:List (Int×List Int))(a b:Int):Prop:=∃ p∈ml,p.2.head?=some a∧b∈p.2
def RZ (e:En)(z:Int×Int):Prop:=e.id=z.1∧e.sum=z.2
def RM (e:En)(p:Int×List Int):Prop:=e.id=p.1∧e.many=p.2.length∧p.2.head?=some (e.fst:Int)
theorem qJ {x:Int}(h : -9223372036854775808≤x∧x<9223372036854775808):wr x=x:=zk7 _ oM
theorem CJ {i:Nat}{c p:Int}:∀ {es:List En} {zl:List (Int×Int)},az RZ es zl→(∀ e∈es,wr (e.sum+p)=e.sum+p)→wr (0+p)=p→az RZ (ko i c p es) (eL zl c p)
 | [],[],_,_,hp=>⟨⟨rfl,hp⟩,trivial⟩
 | e::es,(a,z)::zl,h,hb,hp=>by
  obtain ⟨⟨h1,h2⟩,h3⟩:=h;have h1:e.id=a:=h1;have h2:e.sum=z:=h2;simp only[ko,eL];by_cases hc:e.id=c
  ·rw[zf8 hc,zf8 (by rw[← h1,hc])];exact⟨⟨h1,by show wr (e.sum+p)=z+p; rw[hb e (by simp),h2]⟩,h3⟩
  ·rw[zf7 hc,zf7 (by rw[← h1]; exact fun e=>hc e.symm)];exact⟨⟨h1,h2⟩,CJ h3 (fun x hx=>hb x (by simp[hx])) hp⟩
 | [],_::_,h,_,_=>h.elim
 | _::_,[],h,_,_=>h.elim
theorem CK {i:Nat}{c p:Int}:∀ {es:List En} {ml:List (Int×List Int)},az RM es ml→(∀ e∈es,wr (e.many+1)=e.many+1)→az RM (ko i c p es) (fy ml c i) ∧
  ∀ a b,dL (fy ml c i) a b↔dL ml a b∨(a=i8 i c es∧b=i)
 | [],[],_,_=>by
  refine⟨⟨⟨rfl,by rfl,rfl⟩,trivial⟩,fun a b=>?_⟩;constructor
  ·rintro ⟨q,hq,h1,h2⟩;simp[fy] at hq;subst hq;simp at h1 h2;exact .inr ⟨h1.symm,h2⟩
  ·rintro (⟨q,hq,_⟩ | ⟨rfl,rfl⟩)
   ·simp at hq
   ·exact⟨(c,[(i:Int)]),by simp[fy],I,by simp⟩
 | e::es,(k,l)::ml,h,hb=>by
  obtain ⟨⟨h1,h2,h4⟩,h3⟩:=h;have h1:e.id=k:=h1;have h2:e.many=l.length:=h2;have h4:l.head?=some (e.fst:Int):=h4;simp only[ko,fy,i8];by_cases hc:e.id=c
  ·rw[zf8 hc,zf8 (by rw[← h1,hc]),zf8 hc];have hh:(l++[(i:Int)]).head?=some (e.fst:Int):=by
    cases l with
    | nil=>simp at h4
    | cons x r=>simpa using h4
   refine⟨⟨⟨h1,by show wr (e.many+1)=_; rw[hb e (by simp),h2]; simp,hh⟩,h3⟩,fun a b=>?_⟩;constructor
   ·rintro ⟨q,hq,h5,h6⟩
    rcases ze8.1 hq with rfl | hq
    ·dsimp only at h5 h6;rw[hh] at h5
     rcases zf1.1 h6 with h6 | h6
     ·exact .inl ⟨(k,l),by simp,by rw[h4,h5],h6⟩
     ·simp at h6;injection h5 with h5
      exact .inr ⟨h5.symm,h6⟩
    ·exact .inl ⟨q,by simp[hq],h5,h6⟩
   ·rintro (⟨q,hq,h5,h6⟩ | ⟨rfl,rfl⟩)
    ·rcases ze8.1 hq with rfl | hq
     ·exact⟨(k,l++[(i:Int)]),by simp,by rw[hh,← h4,h5],by simp[h6]⟩
     ·exact⟨q,by simp[hq],h5,h6⟩
    ·exact⟨(k,l++[(i:Int)]),by simp,hh,by simp⟩
  ·rw[zf7 hc,zf7 (by rw[← h1]; exact fun e=>hc e.symm),zf7 hc];obtain ⟨i1,i2⟩:=CK (i:=i) (c:=c) (p:=p) h3 fun x hx=>hb x (by simp[hx]);refine⟨⟨⟨h1,h2,h4⟩,i1⟩,fun a b=>?_⟩;have e1:∀ L,dL ((k,l)::L) a b↔(l.head?=some a∧b∈l)∨dL L a b:=fun L=>by
    unfold dL;simp
   rw[e1,e1,i2,or_assoc]
 | [],_::_,h,_=>h.elim
 | _::_,[],h,_=>h.elim
structure Sd (n t k:Nat)(es:List En)(part:List Int)(zl:List (Int×Int))(ml:List (Int×List Int)):Prop where
 z:az RZ es zl
 m:az RM es ml
 bz:∀ e∈es,-(t:Int)≤e.sum∧e.sum≤t∧0≤e.many∧e.many≤t
 bf:∀ e∈es,e.fst<k
 bm:∀ p∈ml,∀ x∈p.2,0≤x∧x<k
 len:part.length=n
 bp:∀ a,a<k→0≤part.getD a 0∧part.getD a 0<k
 cn:∀ a b:Nat,a<k→b<k→(part.getD a 0=part.getD b 0↔Cn (dL ml) a b)
theorem gJ {ml:List (Int×List Int)}{k:Nat}(h:∀ p∈ml,∀ x∈p.2,0≤x∧x<(k:Int)){a b:Int}(hl:dL ml a b):(0≤a∧a<k)∧(0≤b∧b<k):=by
 obtain ⟨p,hp,h1,h2⟩:=hl;exact⟨h p hp a (List.mem_of_head? h1),h p hp b h2⟩
theorem Sd.open {n t k:Nat}{es:List En}{part:List Int}{zl:List (Int×Int)}{ml:List (Int×List Int)}(h:Sd n t k es part zl ml)(hk:k<n):Sd n t (k+1) es (part.set k k) zl ml:=by
 have hl:=h.len;have g1:(part.set k (k:Int)).getD k 0=k:=by rw[zg8,List.getElem?_set]; simp[hl,hk]
 have g2:∀ a,a≠k→(part.set k (k:Int)).getD a 0=part.getD a 0:=fun a ha=>by
  rw[zg8,zg8,List.getElem?_set,zf7 fun e=>ha e.symm]
 have iso:∀ b,¬ dL ml k b∧¬ dL ml b k:=fun b=>⟨fun e=>by have:=gJ h.bm e; omega,fun e=>by have:=gJ h.bm e; omega⟩;refine⟨h.z,h.m,h.bz,fun e he=>by have:=h.bf e he; omega,fun p hp x hx=>by have:=h.bm p hp x hx; omega,by simp[hl],fun a ha=>?_,fun a b ha hb=>?_⟩
 ·by_cases e:a=k
  ·subst e; rw[g1]; omega
  ·rw[g2 a e]; have:=h.bp a oM; omega
 ·by_cases e:a=k <;> by_cases e2:b=k
  ·subst e; subst e2; exact⟨fun _=>.refl _,fun _=>I⟩
  ·subst e;rw[g1,g2 b e2];have:=h.bp b oM;exact⟨fun h=>by omega,fun hc=>by have:=hc.iso iso; omega⟩
  ·subst e2;rw[g1,g2 a e];have:=h.bp a oM;exact⟨fun h=>by omega,fun hc=>by have:=hc.symm.iso iso; omega⟩
  ·rw[g2 a e,g2 b e2];exact h.cn a b oM oM
theorem jY {m:Nat}{old now:Int}{p:List Int}{a:Nat}(h:a<p.length)(hm:a<m):(dJ m old now p).getD a 0=if p.getD a 0=now then old else p.getD a 0:=by
 rw[zg8,zg8];simp only[dJ,List.getElem?_mapIdx,List.getElem?_eq_getElem h,Option.map_some,Option.getD_some,hm,true_and]
theorem B8 {i:Nat}{c:Int}{es:List En}(h:∀ e∈es,e.fst<i+1):i8 i c es<i+1:=by
 induction es with
 | nil=>exact Nat.lt_succ_self i
 | cons e r ih =>
  unfold i8;split
  ·exact h e (by simp)
  ·exact ih fun x hx=>h x (by simp[hx])
theorem wn {P:En→Prop}{i:Nat}{c p:Int}(hn:P (En.up ⟨c,0,0,i⟩ p))(hu:∀ e,P e→P (e.up p))(ho:∀ e,P e→P e):∀ {es:List En},(∀ e∈es,P e)→∀ e∈ko i c p es,P e
 | [],_,e,he=>by simp[ko] at he; subst he; exact hn
 | x::r,h,e,he=>by
  unfold ko at he;split at he
  ·rcases ze8.1 he with rfl | he
   ·exact hu x (h x (by simp))
   ·exact h e (by simp[he])
  ·rcases ze8.1 he with rfl | he
   ·exact h e (by simp)
   ·exact wn hn hu ho (fun y hy=>h y (by simp[hy])) e he
theorem wy {P:Int→Prop}{c:Int}{i:Int}(hi:P i):∀ {ml:List (Int×List Int)},(∀ p∈ml,∀ x∈p.2,P x)→∀ p∈fy ml c i,∀ x∈p.2,P x
 | [],_,p,hp,x,hx=>by simp[fy] at hp; subst hp; simp at hx; subst hx; exact hi
 | (k,l)::r,h,p,hp,x,hx=>by
  unfold fy at hp;split at hp
  ·rcases ze8.1 hp with rfl | hp
   ·rcases zf1.1 hx with hx | hx
    ·exact h (k,l) (by simp) x hx
    ·simp at hx; subst hx; exact hi
   ·exact h p (by simp[hp]) x hx
  ·rcases ze8.1 hp with rfl | hp
   ·exact h (k,l) (by simp) x hx
   ·exact wy hi (fun q hq=>h q (by simp[hq])) p hp x hx
theorem Sd.next {n t i:Nat}{es:List En}{part:List Int}{zl:List (Int×Int)}{ml:List (Int×List Int)}{x r:ah}(h:Sd n t (i+1) es part zl ml)(hi:i<n)(ht:t<1000000)(hx:x.sign=1∨x.sign = -1)(hr:r.sign=1∨r.sign = -1) :
  Sd n (t+1) (i+1) (lg i x.sign (es,part) r).1 (lg i x.sign (es,part) r).2 (i5 x zl r) (er i ml r):=by
 have hp:=qk hx hr;have hw:wr (x.sign * r.sign)=x.sign * r.sign:=qJ oM;unfold lg i5 er;dsimp only;rw[hw];generalize x.sign * r.sign=p at *;have hl:=h.len;have hbm:=CK (i:=i) (c:=r.cell) (p:=p) h.m fun e he=>by have:=h.bz e he; exact qJ oM
 have hf:=B8 (c:=r.cell) h.bf;refine⟨CJ h.z (fun e he=>by have:=h.bz e he; exact qJ oM) (by rw[Int.zero_add]; exact qJ oM),hbm.1,?_,?_,?_,by rw[lc]; exact hl,fun a ha=>?_,fun a b ha hb=>?_⟩
 ·have:∀ e∈ko i r.cell p es,(-(t:Int)≤e.sum∧e.sum≤t∧0≤e.many∧e.many≤t)∨(-((t+1:Nat):Int)≤e.sum∧e.sum≤((t+1:Nat):Int)∧0≤e.many∧e.many≤((t+1:Nat):Int)):=by
   have h0:=h.bz;clear h hbm hf hl;generalize hes:ko i r.cell p es=fs;intro e he;subst hes;induction es with
   | nil =>
    simp[ko] at he;subst he;right;simp only[En.up];rw[qJ oM,qJ oM];omega
   | cons y q ih =>
    unfold ko at he;split at he
    ·rcases ze8.1 he with rfl | he
     ·right;have:=h0 y (by simp);simp only[En.up];rw[qJ oM,qJ oM];omega
     ·exact .inl (h0 e (by simp[he]))
    ·rcases ze8.1 he with rfl | he
     ·exact .inl (h0 e (by simp))
     ·exact ih (fun z hz=>h0 z (by simp[hz])) he
  intro e he
  rcases this e he with h1 | h1 <;> omega
 ·exact wn (P:=fun e=>e.fst<i+1) (Nat.lt_succ_self i) (fun e he=>he) (fun e he=>he) h.bf
 ·exact wy (P:=fun x=>0≤x∧x<((i+1:Nat):Int)) oM h.bm
 ·rw[jY oM ha];split
  ·exact h.bp _ hf
  ·exact h.bp a ha
 ·rw[jY oM ha,jY oM hb,Cn.add (x:=(i8 i r.cell es:Int)) (y:=(i:Int)) hbm.2 a b];rw[← h.cn a b ha hb,← h.cn a _ ha hf,← h.cn i b oM hb,← h.cn a i ha oM,← h.cn _ b hf hb];generalize part.getD a 0=pa;generalize part.getD b 0=pb;generalize part.getD i 0=pi;generalize part.getD (i8 i r.cell es) 0=pf;by_cases h1:pa=pi <;> by_cases h2:pb=pi <;> simp[h1,h2] <;> omega
theorem Sd.inner {n i:Nat}{x:ah}(hi:i<n)(hx:x.sign=1∨x.sign = -1):∀ (l:List ah) {t:Nat} {es:List En} {part:List Int} {zl:List (Int×Int)} {ml:List (Int×List Int)},Sd n t (i+1) es part zl ml→t+l.length<1000000→(∀ r∈l,r.sign=1∨r.sign = -1) →
  Sd n (t+l.length) (i+1) (l.foldl (lg i x.sign) (es,part)).1 (l.foldl (lg i x.sign) (es,part)).2 (l.foldl (i5 x) zl) (l.foldl (er i) ml)
 | [],_,_,_,_,_,h,_,_=>h
 | r::l,t,es,part,zl,ml,h,ht,hr=>by
  simp only[ze6] at ht;have h1:=h.next (x:=x) (r:=r) hi oM hx (hr r (by simp));have:=Sd.inner hi hx l h1 oM (fun q hq=>hr q (by simp[hq]));simp only[zi6,ze6];rw[show t+(l.length+1)=t+1+l.length by omega];exact this
theorem Sd.outer {tl:List Cl}{n:Nat}:∀ (l:List ah) {t k:Nat} {es:List En} {part:List Int} {zl:List (Int×Int)} {ml:List (Int×List Int)},Sd n t k es part zl ml→k+l.length≤n→t+64 * l.length<1000000→(∀ x∈l,x.sign=1∨x.sign = -1)→(∀ x∈l,(aq tl x).length≤64∧∀ r∈aq tl x,r.sign=1∨r.sign = -1) →
  ∃ t',Sd n t' (k+l.length) ((l.zipIdx k).foldl (mU tl) (es,part)).1 ((l.zipIdx k).foldl (mU tl) (es,part)).2 (l.foldl (fun zl x=>(aq tl x).foldl (i5 x) zl) zl) ((l.zipIdx k).foldl (fun ml p=>(aq tl p.1).foldl (er p.2) ml) ml)
 | [],t,_,_,_,_,_,h,_,_,_,_=>⟨t,h⟩
 | x::l,t,k,es,part,zl,ml,h,hk,ht,hs,hq=>by
  simp only[ze6] at hk ht;have h0:=hq x (by simp);have h1:=(h.open oM).inner (x:=x) oM (hs x (by simp)) (aq tl x) oM h0.2;obtain ⟨t',h2⟩:=Sd.outer l h1 oM oM (fun y hy=>hs y (by simp[hy])) (fun y hy=>hq y (by simp[hy]));refine⟨t',?_⟩;simp only[List.zipIdx_cons,zi6,ze6];rw[show k+(l.length+1)=k+1+l.length by omega];exact h2
theorem ns {α β:Type}{R:α→β→Prop}{p:α→Bool}{q:β→Bool}(h:∀ a b,R a b→p a=q b):∀ {l:List α} {m:List β},az R l m→l.any p=m.any q
 | [],[],_=>rfl
 | a::l,b::m,hr=>by simp only[List.any_cons,h a b hr.1,ns h hr.2]
 | [],_::_,hr=>hr.elim
 | _::_,[],hr=>hr.elim
theorem rk {ml:List (Int×List Int)}(h2:∀ p∈ml,p.2.length=2)(a b:Int):Rch (jf (cN ml)) a b↔Cn (dL ml) a b:=by
 have hstep:∀ x y,y∈ez (cN ml) x→Cn (dL ml) x y:=fun x y hy=>by
  obtain ⟨p,hp,h⟩:=(ku ml x y).1 hy
  rcases h with h | h
  ·exact .one ⟨p,hp,by rw[h]; rfl,by rw[h]; simp⟩
  ·exact (Cn.one (E:=dL ml) ⟨p,hp,by rw[h]; rfl,by rw[h]; simp⟩).symm
 have hadj:∀ x,jf (cN ml) x≠none:=fun x=>by simp[jf]
 constructor
 ·intro h;induction h with
  | refl _ _=>exact .refl _
  | step x y _ l hl hy _ ih =>
   simp only[jf,zg5] at hl;subst hl;exact (hstep x y hy).trans ih
 ·intro h;induction h with
  | refl a=>exact .refl a (hadj a)
  | @step x y z e _ ih =>
   have key:∀ u v,dL ml u v→v=u∨v∈ez (cN ml) u:=fun u v ⟨p,hp,h3,h4⟩=>by
    have:=h2 p hp
    match hq:p.2,this with
    | [c,d],_ =>
     rw[hq] at h3 h4;simp at h3 h4;subst h3
     rcases h4 with h4 | h4
     ·exact .inl h4
     ·exact .inr ((ku ml c v).2 ⟨p,hp,.inl (by rw[hq,h4])⟩)
   rcases e with e | e
   ·rcases key x y e with rfl | h5
    ·exact ih
    ·exact .step x y z _ I h5 ih
   ·rcases key y x e with rfl | h5
    ·exact ih
    ·refine .step x y z _ I ?_ ih;obtain ⟨p,hp,h6⟩:=(ku ml y x).1 h5;exact (ku ml x y).2 ⟨p,hp,h6.symm⟩
theorem nb {l:List Int}(hn:l.Nodup)(hb:∀ x∈l,0≤x):(l.map Int.toNat).Nodup:=by
 rw[List.Nodup,zk2];refine List.Pairwise.imp_of_mem ?_ hn;intro a b ha hb' hne e;have:=hb a ha;have:=hb b hb';omega
theorem kO {l:List Int}{n:Nat}(hn:l.Nodup)(hb:∀ x∈l,0≤x∧x<(n:Int)):l.length≤n:=by
 have h1:=nb hn fun x hx=>(hb x hx).1;have:=dy (l:=List.range n) h1 List.nodup_range fun x hx=>by
  obtain ⟨y,hy,rfl⟩:=ze9.1 hx;have:=hb y hy;exact List.mem_range.2 oM
 simpa using this
theorem qS {tl:List Cl}{c:Cl}(hok:AOk tl c)(h0:0<c.sides.length):gY tl c=a6 tl c:=by
 obtain ⟨h64,hs,hq⟩:=hok;have start:Sd c.sides.length 0 0 [] (List.replicate c.sides.length 0) [] []:=⟨trivial,trivial,by simp,by simp,by simp,by simp,by simp,fun a b ha=>by omega⟩;obtain ⟨t,hd⟩:=start.outer c.sides (tl:=tl) oM oM hs hq;have e1:((c.sides.zipIdx 0).foldl (mU tl) ([],List.replicate c.sides.length 0))=l8 tl c.sides c.sides.length:=rfl;rw[e1] at hd;have hz:az RZ (l8 tl c.sides c.sides.length).1 (eO tl c.sides):=hd.z;have hm:az RM (l8 tl c.sides c.sides.length).1 (em tl c.sides):=hd.m;unfold gY a6;rw[ns (p:=fun e=>decide (e.sum≠0)) (q:=fun p:Int×Int=>decide (p.2≠0)) (fun a b h=>by rw[h.2]) hz];rw[ns (p:=fun e=>decide (e.many≠2)) (q:=fun p:Int×List Int=>decide ((p.2.length:Int)≠2)) (fun a b h=>by rw[h.2.1]) hm];split
 ·rfl
 ·split
  ·rfl
  ·rename_i hno;have h2:∀ p∈em tl c.sides,p.2.length=2:=fun p hp=>by
    have:=zk3.1 ((zj5 _).mp hno) p hp;simp at this;omega
   have hbm:∀ p∈em tl c.sides,∀ x∈p.2,0≤x∧x<((0+c.sides.length:Nat):Int):=hd.bm;rw[Nat.zero_add] at hbm;have hcn:∀ a b:Nat,a<c.sides.length→b<c.sides.length→((l8 tl c.sides c.sides.length).2.getD a 0=(l8 tl c.sides c.sides.length).2.getD b 0↔Rch (jf (cN (em tl c.sides))) a b):=fun a b ha hb=>by
    rw[rk h2];exact hd.cn a b oM oM
   have hln:=hd.len;have hmem:∀ x:Int,x∈iJ (cN (em tl c.sides))↔Rch (jf (cN (em tl c.sides))) 0 x:=fun x=>tx (cnt:=mL (cN (em tl c.sides))) (fun v v' h=>i4 h) (j8 _) (zk6 (zc4 _ _)) (by simp[jf]) x;have hnd:(iJ (cN (em tl c.sides))).Nodup:=iZ _ _ _ _ (by simp);have hin:∀ x∈iJ (cN (em tl c.sides)),0≤x∧x<(c.sides.length:Int):=fun x hx=>by
    have hr:=(rk h2 0 x).1 ((hmem x).1 hx);have:∀ a b,Cn (dL (em tl c.sides)) a b→(0≤a∧a<(c.sides.length:Int))→(0≤b∧b<(c.sides.length:Int)):=by
     intro a b h;induction h with
     | refl _=>exact fun h=>h
     | step e _ ih =>
      intro _
      rcases e with e | e
      ·exact ih (gJ hbm e).2
      ·exact ih (gJ hbm e).1
    exact this 0 x hr oM
   generalize (l8 tl c.sides c.sides.length).2=part at *;generalize iJ (cN (em tl c.sides))=seen at *;by_cases hall:∀ a,a<c.sides.length→part.getD a 0=part.getD 0 0
   ·have hf:part.any (fun x=>decide (x≠part.getD 0 0))=false:=by
     rw[zk3];intro x hx;obtain ⟨i,hi,rfl⟩:=zc6 hx;have:=hall i oM;rw[zg8,List.getElem?_eq_getElem hi] at this;simpa using this
    have hlen:seen.length=c.sides.length:=by
     refine Nat.le_antisymm (kO hnd hin) ?_;have h3:=dy (m:=List.range c.sides.length) (l:=seen.map Int.toNat) List.nodup_range (nb hnd fun x hx=>(hin x hx).1) fun i hi=>by
      have hi:=List.mem_range.1 hi;exact ze9.2 ⟨(i:Int),(hmem i).2 ((hcn 0 i h0 hi).1 (hall i hi).symm),by simp⟩
     simpa using h3
    rw[hf,hlen];simp
   ·have ht:part.any (fun x=>decide (x≠part.getD 0 0))=true:=by
     simp only[Classical.not_forall] at hall;obtain ⟨a,ha,hne⟩:=hall;rw[zj6];refine⟨part.getD a 0,?_,by simpa using hne⟩;rw[zg8,List.getElem?_eq_getElem oM];exact gM _
    have hlen:(seen.length:Int)≠c.sides.length:=by
     simp only[Classical.not_forall] at hall;obtain ⟨a,ha,hne⟩:=hall;have hna:(a:Int) ∉ seen:=fun h=>hne ((hcn 0 a h0 ha).2 ((hmem a).1 h)).symm;have:=kO (l:=(a:Int)::seen) (n:=c.sides.length) (zj9.2 ⟨hna,hnd⟩) fun x hx=>by
      rcases ze8.1 hx with rfl | hx
      ·omega
      ·exact hin x hx
     simp at this;omega
    rw[ht,zf8 rfl,zf8 hlen]
theorem cH {tl:List Cl}:∀ {l:List Cl} {n:Int},gt tl l n=none→l.Pairwise (fun a b=>a.id<b.id)∧(∀ x∈l,n<x.id)∧∀ x∈l,bV tl x=0
 | [],_,_=>⟨List.Pairwise.nil,by simp,by simp⟩
 | x::r,n,h=>by
  unfold gt at h;split at h
  ·cases h
  ·rename_i hid;split at h
   ·cases h
   ·rename_i hf;obtain ⟨h1,h2,h3⟩:=cH h;refine⟨zk1.2 ⟨h2,h1⟩,fun y hy=>?_,fun y hy=>?_⟩
    ·rcases ze8.1 hy with rfl | hy
     ·omega
     ·have:=h2 y hy; omega
    ·rcases ze8.1 hy with rfl | hy
     ·exact zg7 hf
     ·exact h3 y hy
theorem jm (l:List Cl):aJ l=au l:=by
 unfold aJ au;split
 ·rfl
 ·cases h:gt (ai l) (aa l) 0 with
  | some p=>rfl
  | none =>
   obtain ⟨h1,_,h3⟩:=cH h;have ht:=bD h1;have key:∀ m:List Cl,(∀ x∈m,x∈aa l)→md (aa l) m=mM (ai l) m:=by
    intro m;induction m with
    | nil=>intro _; rfl
    | cons x r ih =>
     intro hm;have hx:=hm x (by simp);unfold md mM;rw[ih fun y hy=>hm y (by simp[hy])];by_cases hd:x.dim>1
     ·have hok:=yu h3 hx;have hn:0<x.sides.length:=by
       have hf:=h3 x hx;unfold bV at hf;split at hf
       ·cases hf
       ·split at hf
        ·cases hf
        ·rename_i hc;simp[aU] at hc;have:=hc.2 hd;omega
      rw[ht] at hok ⊢;rw[qS hok hn]
     ·simp[hd]
   rw[key _ fun x hx=>hx]
set_option maxRecDepth 10000
theorem kA {l:List Cl}(h:(au l).2=0):gt (ai l) (aa l) 0=none:=by
 unfold au at h;split at h
 ·simp at h
 ·cases h1:gt (ai l) (aa l) 0 with
  | none=>rfl
  | some p=>rw[h1] at h; exact absurd h (tC h1)
theorem BE (a b:List Cl):bZ a b=CZ a b:=by
 have hb:bT a b=mQ a b:=by
  unfold bT mQ;rw[jm,jm];by_cases h1:(au a).2=0
  ·by_cases h2:(au b).2=0
   ·rw[bD (cH (kA h1)).1,bD (cH (kA h2)).1,ax,ax]
   ·simp[h2]
  ·simp[h1]
 unfold bZ CZ;rw[hb,jm]
section
variable {A:List (List Int)}(hA:gv A)
include hA
end
theorem DI {tl:List Cl}{c:Cl}(h1:0≤c.dim∧c.dim≤8)(h2:aU c=false)(h3:∀ x∈c.sides,∃ d,ab tl x.cell=some d∧d.dim=c.dim - 1)(h4:c.sides.Pairwise fun a b=>a.cell<b.cell)(h5:∀ x∈c.sides,x.sign=1∨x.sign = -1)(h6:c.dim=1→mo c.sides=0):bV tl c=0:=by
 have e1:eY c=false:=by unfold eY; simp; omega
 have e3:(List.range c.sides.length).any (il tl c)=false:=by
  rw[zk3];intro i hi;have hi:=List.mem_range.1 hi;obtain ⟨d,hd1,hd2⟩:=h3 _ (gM hi);unfold il;rw[List.getElem?_eq_getElem hi];show ¬ bL _ _ i c.sides[i]=true;unfold bL;rw[hd1];simp only[Option.isSome_some,Bool.not_true,Bool.false_or,Option.getD_some,hd2,ne_eq,not_true_eq_false,decide_false];by_cases hi0:i>0
  ·have hlt:=zc8.1 h4 (i - 1) i oM hi oM;rw[List.getElem?_eq_getElem oM];simp;omega
  ·simp[hi0]
 have e4:c.sides.any bB=false:=by
  rw[zk3];intro x hx
  rcases h5 x hx with h | h <;> simp[bB,h]
 have e5:(decide (c.dim=1)&&decide (mo c.sides≠0))=false:=by
  by_cases hd:c.dim=1
  ·rw[h6 hd]; simp
  ·simp[hd]
 unfold bV;rw[e1,h2,e3,e4,e5];rfl
section
variable {A B:List (List Int)}(hA:gv A)(hB:gv B)
include hA hB
end
section
variable {A B:List (List Int)}(hA:gv A)(hB:gv B)
include hA hB
end
structure Few (a:List Cl)(A:List (List Int)):Prop where
 good:gv A
 cells:a=A.map (ic A)
 small:∀ s∈A,s.length≤3
 few:A.length≤14
def vn (tl:List Cl)(l:List ah)(r:Int):Int:=(l.flatMap fun x=>(aq tl x).map fun q=>if q.cell=r then x.sign * q.sign else 0).sum
def jF (tl:List Cl)(x:ah)(r:Int):Nat:=((aq tl x).filter fun q=>decide (q.cell=r)).length
def cntR (tl:List Cl)(l:List ah)(r:Int):Nat:=(l.map fun x=>jF tl x r).sum
def jU (tl:List Cl)(l:List ah)(a b:Int):Prop:=∃ x∈l,∃ y∈l,x.cell=a∧y.cell=b∧∃ r,0<jF tl x r∧0<jF tl y r
theorem rY (zl:List (Int×Int))(k x r:Int):dP (eL zl k x) r=dP zl r+if r=k then x else 0:=by
 induction zl with
 | nil =>
  simp only[eL,dP];split <;> simp
 | cons p q ih =>
  obtain ⟨a,z⟩:=p;simp only[eL];by_cases h:k=a
  ·subst h;simp only[if_true,dP];split <;> simp
  ·rw[zf7 h];simp only[dP,ih];by_cases hr:r=a
   ·subst hr;rw[zf8 rfl,zf8 rfl,zf7 fun e=>h e.symm];omega
   ·rw[zf7 hr,zf7 hr]
theorem ph (x:ah)(r:Int):∀ (l:List ah) (zl:List (Int×Int)),dP (l.foldl (i5 x) zl) r=dP zl r+(l.map fun q=>if q.cell=r then x.sign * q.sign else 0).sum
 | [],zl=>by simp
 | q::l,zl=>by
  simp only[zi6,zg2,List.sum_cons];rw[ph x r l,i5,rY];by_cases h:r=q.cell
  ·rw[zf8 h,zf8 h.symm]; omega
  ·rw[zf7 h,zf7 fun e=>h e.symm]; omega
theorem rX (tl:List Cl)(l:List ah)(r:Int):dP (eO tl l) r=vn tl l r:=by
 have:∀ (l:List ah) (zl:List (Int×Int)),dP (l.foldl (fun zl x=>(aq tl x).foldl (i5 x) zl) zl) r=dP zl r+vn tl l r:=by
  intro l;induction l with
  | nil=>intro zl; simp[vn]
  | cons x q ih =>
   intro zl;simp only[zi6];rw[ih,ph];simp only[vn,zh3,List.sum_append];omega
 have h:=this l [];simpa [eO,dP] using h
theorem nt (ml:List (Int×Int))(k x:Int):(eL ml k x).map Prod.fst=if ml.any (fun p=>decide (p.1=k)) then ml.map Prod.fst else ml.map Prod.fst++[k]:=by
 induction ml with
 | nil=>simp[eL]
 | cons p r ih =>
  obtain ⟨a,l⟩:=p;simp only[eL];by_cases h:k=a
  ·subst h;simp
  ·have h2:¬ a=k:=fun e=>h e.symm;rw[zf7 h];simp only[zg2,ih,List.any_cons,h2,decide_false,Bool.false_or];split <;> simp
theorem xV {ml:List (Int×Int)}(h:(ml.map Prod.fst).Nodup)(k x:Int):((eL ml k x).map Prod.fst).Nodup:=by
 rw[nt];split
 ·exact h
 ·rename_i hk;rw[List.nodup_append];refine⟨h,by simp,fun a ha b hb e=>hk ?_⟩;simp at hb;subst hb;obtain ⟨p,hp,hpe⟩:=ze9.1 ha;rw[zj6];exact⟨p,hp,by simp[hpe,e]⟩
theorem jR (tl:List Cl)(l:List ah):((eO tl l).map Prod.fst).Nodup:=by
 have h1:∀ (x:ah) (q:List ah) (zl:List (Int×Int)),(zl.map Prod.fst).Nodup→((q.foldl (i5 x) zl).map Prod.fst).Nodup:=by
  intro x q;induction q with
  | nil=>intro zl h; exact h
  | cons r t ih=>intro zl h; exact ih _ (xV h _ _)
 have h2:∀ (q:List ah) (zl:List (Int×Int)),(zl.map Prod.fst).Nodup→((q.foldl (fun zl x=>(aq tl x).foldl (i5 x) zl) zl).map Prod.fst).Nodup:=by
  intro q;induction q with
  | nil=>intro zl h; exact h
  | cons x t ih=>intro zl h; exact ih _ (h1 _ _ _ h)
 exact h2 _ _ (by simp)
theorem mF:∀ {zl:List (Int×Int)},(zl.map Prod.fst).Nodup→∀ p∈zl,dP zl p.1=p.2
 | [],_,p,hp=>by simp at hp
 | (a,z)::r,h,p,hp=>by
  simp only[zg2,zj9] at h
  rcases ze8.1 hp with rfl | hp
  ·simp[dP]
  ·simp only[dP];rw[zf7 fun e=>h.1 (ze9.2 ⟨p,hp,e⟩)];exact mF h.2 p hp
theorem ni:∀ {zl:List (Int×Int)} {k:Int},dP zl k≠0→∃ p∈zl,p.1=k∧p.2=dP zl k
 | [],_,h=>by simp[dP] at h
 | (a,z)::r,k,h=>by
  simp only[dP] at h ⊢;split
  ·rename_i e;exact⟨(a,z),by simp,e.symm,I⟩
  ·rename_i e;rw[zf7 e] at h;obtain ⟨p,hp,h1,h2⟩:=ni h;exact⟨p,by simp[hp],h1,h2⟩
theorem m6 (tl:List Cl)(l:List ah):(eO tl l).any (fun p=>decide (p.2≠0))=false↔∀ r,vn tl l r=0:=by
 rw[zk3];constructor
 ·intro h r;rw[← rX];refine zg7 fun hne=>?_;obtain ⟨p,hp,_,h2⟩:=ni hne;exact h p hp (by simpa [h2] using hne)
 ·intro h p hp;have:=mF (jR tl l) p hp;rw[rX,h] at this;simp[← this]
theorem pj (i r:Int):∀ (l:List ah) (ml:List (Int×List Int)),ez (l.foldl (er i) ml) r=ez ml r++List.replicate (l.filter fun q=>decide (q.cell=r)).length i
 | [],ml=>by simp
 | q::l,ml=>by
  simp only[zi6];rw[pj i r l,er,sb,zi5];by_cases h:r=q.cell
  ·rw[zf8 h,zf8 (by simp[h])];simp[List.replicate_succ]
  ·rw[zf7 h,zf7 (by simp; exact fun e=>h e.symm)]
theorem vV (tl:List Cl)(l:List ah)(r:Int):ez (em tl l) r=l.zipIdx.flatMap fun p=>List.replicate (jF tl p.1 r) (p.2:Int):=by
 have:∀ (q:List (ah×Nat)) (ml:List (Int×List Int)),ez (q.foldl (fun ml p=>(aq tl p.1).foldl (er p.2) ml) ml) r=ez ml r++q.flatMap fun p=>List.replicate (jF tl p.1 r) (p.2:Int):=by
  intro q;induction q with
  | nil=>intro ml; simp
  | cons p t ih =>
   intro ml;simp only[zi6];rw[ih,pj];simp[jF]
 have h:=this l.zipIdx [];simpa [em,ez] using h
theorem yW (tl:List Cl)(l:List ah)(r:Int):(ez (em tl l) r).length=cntR tl l r:=by
 rw[vV];have:∀ (l:List ah) (k:Nat),((l.zipIdx k).flatMap fun p=>List.replicate (jF tl p.1 r) (p.2:Int)).length=cntR tl l r:=by
  intro l;induction l with
  | nil=>intro k; rfl
  | cons x q ih=>intro k; simp only[List.zipIdx_cons,zh3,ze3,List.length_replicate,ih,cntR,zg2,List.sum_cons]
 exact this l 0
theorem mS (tl:List Cl)(l:List ah)(r i:Int):i∈ez (em tl l) r↔∃ k:Nat,i=k∧∃ x,l[k]?=some x∧0<jF tl x r:=by
 rw[vV,List.mem_flatMap];constructor
 ·rintro ⟨⟨x,k⟩,hp,hi⟩;obtain ⟨h1,rfl⟩:=List.mem_replicate.1 hi;refine⟨k,I,x,?_,Nat.pos_of_ne_zero h1⟩;simpa using List.mem_zipIdx_iff_getElem?.1 hp
 ·rintro ⟨k,rfl,x,hx,hh⟩;exact⟨(x,k),List.mem_zipIdx_iff_getElem?.2 (by simpa using hx),List.mem_replicate.2 ⟨Nat.ne_of_gt hh,I⟩⟩
theorem mG:∀ {ml:List (Int×List Int)},(ml.map Prod.fst).Nodup→∀ p∈ml,ez ml p.1=p.2
 | [],_,p,hp=>by simp at hp
 | (a,z)::r,h,p,hp=>by
  simp only[zg2,zj9] at h
  rcases ze8.1 hp with rfl | hp
  ·simp[ez]
  ·simp only[ez];rw[zf7 fun e=>h.1 (ze9.2 ⟨p,hp,e⟩)];exact mG h.2 p hp
theorem nj:∀ {ml:List (Int×List Int)} {k:Int},ez ml k≠[]→∃ p∈ml,p.1=k∧p.2=ez ml k
 | [],_,h=>by simp[ez] at h
 | (a,z)::r,k,h=>by
  simp only[ez] at h ⊢;split
  ·rename_i e;exact⟨(a,z),by simp,e.symm,I⟩
  ·rename_i e;rw[zf7 e] at h;obtain ⟨p,hp,h1,h2⟩:=nj h;exact⟨p,by simp[hp],h1,h2⟩
theorem zy:∀ {ml:List (Int×List Int)} {k x:Int},(∀ p∈ml,p.2≠[])→∀ p∈fy ml k x,p.2≠[]
 | [],_,_,_,p,hp=>by simp[fy] at hp; subst hp; simp
 | (a,l)::r,k,x,h,p,hp=>by
  unfold fy at hp;split at hp
  ·rcases ze8.1 hp with rfl | hp
   ·simp
   ·exact h p (by simp[hp])
  ·rcases ze8.1 hp with rfl | hp
   ·exact h _ (by simp)
   ·exact zy (fun q hq=>h q (by simp[hq])) p hp
theorem Eu (tl:List Cl)(l:List ah):∀ p∈em tl l,p.2≠[]:=by
 have h1:∀ (i:Int) (q:List ah) (ml:List (Int×List Int)),(∀ p∈ml,p.2≠[])→∀ p∈q.foldl (er i) ml,p.2≠[]:=by
  intro i q;induction q with
  | nil=>intro ml h; exact h
  | cons r t ih=>intro ml h; exact ih _ (zy h)
 have h2:∀ (q:List (ah×Nat)) (ml:List (Int×List Int)),(∀ p∈ml,p.2≠[])→∀ p∈q.foldl (fun ml p=>(aq tl p.1).foldl (er p.2) ml) ml,p.2≠[]:=by
  intro q;induction q with
  | nil=>intro ml h; exact h
  | cons x t ih=>intro ml h; exact ih _ (h1 _ _ _ h)
 exact h2 _ _ (by simp)
theorem vO (tl:List Cl)(l:List ah):(em tl l).any (fun p=>decide ((p.2.length:Int)≠2))=false↔∀ r,cntR tl l r=0∨cntR tl l r=2:=by
 rw[zk3];constructor
 ·intro h r;rw[← yW];by_cases hne:ez (em tl l) r=[]
  ·left; rw[hne]; rfl
  ·right;obtain ⟨p,hp,_,h2⟩:=nj hne;have:=h p hp;rw[h2] at this;simp at this;omega
 ·intro h p hp;have h1:=mG (jx tl l) p hp;have h2:=h p.1;rw[← yW,h1] at h2;have h3:=List.length_pos_iff.2 (Eu tl l p hp);simp;omega
theorem Ev (tl:List Cl)(l:List ah):∀ p∈em tl l,∀ x∈p.2,0≤x∧x<(l.length:Int):=fun p hp x hx=>by
 rw[← mG (jx tl l) p hp] at hx;obtain ⟨k,rfl,y,hy,_⟩:=(mS tl l p.1 x).1 hx;have:=(zf3.1 hy).1;omega
theorem Bz {ml:List (Int×List Int)}{n:Nat}(h2:∀ p∈ml,p.2.length=2)(hb:∀ p∈ml,∀ x∈p.2,0≤x∧x<(n:Int))(h0:0<n):(iJ (cN ml)).length=n↔∀ a:Nat,a<n→Cn (dL ml) 0 a:=by
 have hmem:∀ x:Int,x∈iJ (cN ml)↔Rch (jf (cN ml)) 0 x:=fun x=>tx (cnt:=mL (cN ml)) (fun v v' h=>i4 h) (j8 _) (zk6 (zc4 _ _)) (by simp[jf]) x;have hnd:(iJ (cN ml)).Nodup:=iZ _ _ _ _ (by simp);have hin:∀ x∈iJ (cN ml),0≤x∧x<(n:Int):=fun x hx=>by
  have hr:=(rk h2 0 x).1 ((hmem x).1 hx);have:∀ a b,Cn (dL ml) a b→(0≤a∧a<(n:Int))→(0≤b∧b<(n:Int)):=by
   intro a b h;induction h with
   | refl _=>exact fun h=>h
   | step e _ ih =>
    intro _
    rcases e with e | e
    ·exact ih (gJ hb e).2
    ·exact ih (gJ hb e).1
  exact this 0 x hr oM
 generalize iJ (cN ml)=seen at *;constructor
 ·intro hl a ha;refine Classical.byContradiction fun hne=>?_;have hna:(a:Int) ∉ seen:=fun h=>hne ((rk h2 0 a).1 ((hmem a).1 h));have:=kO (l:=(a:Int)::seen) (n:=n) (zj9.2 ⟨hna,hnd⟩) fun x hx=>by
   rcases ze8.1 hx with rfl | hx
   ·omega
   ·exact hin x hx
  simp at this;omega
 ·intro hall;refine Nat.le_antisymm (kO hnd hin) ?_;have h3:=dy (m:=List.range n) (l:=seen.map Int.toNat) List.nodup_range (nb hnd fun x hx=>(hin x hx).1) fun i hi=>by
   have hi:=List.mem_range.1 hi;exact ze9.2 ⟨(i:Int),(hmem i).2 ((rk h2 0 i).2 (hall i hi)),by simp⟩
  simpa using h3
theorem Cn.map {E E':Int→Int→Prop}{f:Int→Int}(h:∀ a b,E a b→Cn E' (f a) (f b)){a b:Int}(hc:Cn E a b):Cn E' (f a) (f b):=by
 induction hc with
 | refl _=>exact .refl _
 | step e _ ih =>
  rcases e with e | e
  ·exact (h _ _ e).trans ih
  ·exact (h _ _ e).symm.trans ih
theorem jz {tl:List Cl}{c:Cl}(h0:0<c.sides.length)(hnd:(c.sides.map ah.cell).Nodup) :
  a6 tl c=0↔(∀ r,vn tl c.sides r=0)∧(∀ r,cntR tl c.sides r=0∨cntR tl c.sides r=2)∧∀ x∈c.sides,∀ y∈c.sides,Cn (jU tl c.sides) x.cell y.cell:=by
 unfold a6;generalize c.sides=l at *;by_cases hs:(eO tl l).any (fun p=>decide (p.2≠0))=false
 ·rw[zf7 (by rw[hs]; simp)];by_cases hm:(em tl l).any (fun p=>decide ((p.2.length:Int)≠2))=false
  ·rw[zf7 (by rw[hm]; simp)];have h2:∀ p∈em tl l,p.2.length=2:=fun p hp=>by
    have:=zk3.1 hm p hp;simp at this;omega
   have hsa:=Bz h2 (Ev tl l) h0;have hinj:∀ {i j:Nat} {x y:ah},l[i]?=some x→l[j]?=some y→x.cell=y.cell→i=j:=fun {i j x y} hi hj e=>by
    obtain ⟨i1,e1⟩:=zf3.1 hi;obtain ⟨i2,e2⟩:=zf3.1 hj;have key:∀ {a b:Nat} (ha:a<l.length) (hb:b<l.length),a<b→l[a].cell≠l[b].cell:=fun {a b} ha hb h=>by
     have:=zc8.1 hnd a b (by simpa using ha) (by simpa using hb) h;simpa using this
    rcases Nat.lt_trichotomy i j with h | h | h
    ·exact absurd (by rw[e1,e2]; exact e) (key i1 i2 h)
    ·exact h
    ·exact absurd (by rw[e1,e2]; exact e.symm) (key i2 i1 h)
   have hconn:(∀ a:Nat,a<l.length→Cn (dL (em tl l)) 0 a)↔∀ x∈l,∀ y∈l,Cn (jU tl l) x.cell y.cell:=by
    constructor
    ·intro hall x hx y hy;obtain ⟨i,hi,rfl⟩:=zc6 hx;obtain ⟨j,hj,rfl⟩:=zc6 hy;have hc:=(hall i hi).symm.trans (hall j hj);have:=hc.map (f:=fun a=>(l.getD a.toNat ⟨0,0⟩).cell) (E':=jU tl l) fun a b hl=>by
      obtain ⟨p,hp,h3,h4⟩:=hl;rw[← mG (jx tl l) p hp] at h3 h4;obtain ⟨k,rfl,x,hx,hh⟩:=(mS tl l p.1 a).1 (List.mem_of_head? h3);obtain ⟨m,rfl,y,hy,hh2⟩:=(mS tl l p.1 b).1 h4;refine .one ⟨x,zf9 hx,y,zf9 hy,?_,?_,p.1,hh,hh2⟩
      ·simp[zg8,hx]
      ·simp[zg8,hy]
     simpa [zg8,hi,hj] using this
    ·intro hall;have key:∀ a b,Cn (jU tl l) a b→∀ (i:Nat) (x:ah),l[i]?=some x→x.cell=a→∀ (j:Nat) (y:ah),l[j]?=some y→y.cell=b→Cn (dL (em tl l)) (i:Int) (j:Int):=by
      have one:∀ {a b:Int},jU tl l a b→∀ (i:Nat) (x:ah),l[i]?=some x→x.cell=a→∃ (j:Nat) (y:ah),l[j]?=some y∧y.cell=b∧Cn (dL (em tl l)) (i:Int) (j:Int):=by
       rintro a b ⟨x',hx',y,hy,rfl,rfl,r,h3,h4⟩ i x hi he;obtain ⟨i',hi',rfl⟩:=zc6 hx';obtain ⟨j,hj,rfl⟩:=zc6 hy;have hii:=hinj hi (List.getElem?_eq_getElem hi') he;subst hii;refine⟨j,l[j],List.getElem?_eq_getElem hj,I,?_⟩;have m1:=(mS tl l r i).2 ⟨i,rfl,l[i],List.getElem?_eq_getElem hi',h3⟩;have m2:=(mS tl l r j).2 ⟨j,rfl,l[j],List.getElem?_eq_getElem hj,h4⟩;obtain ⟨p,hp,_,hp2⟩:=nj (ml:=em tl l) (k:=r) fun e=>by rw[e] at m1; simp at m1
       rw[← hp2] at m1 m2;cases hh:p.2 with
       | nil=>rw[hh] at m1; simp at m1
       | cons u q =>
        have hu:∀ v∈p.2,dL (em tl l) u v:=fun v hv=>⟨p,hp,by rw[hh]; rfl,hv⟩;exact (Cn.one (hu _ m1)).symm.trans (Cn.one (hu _ m2))
      intro a b hc;induction hc with
      | refl a =>
       intro i x hi he j y hj he2;have:=hinj hi hj (he.trans he2.symm);subst this;exact .refl _
      | step e _ ih =>
       intro i x hi he j y hj he2;have e':jU tl l _ _:=e.elim (fun e=>e) fun ⟨x,hx,y,hy,h1,h2,r,h3,h4⟩=>⟨y,hy,x,hx,h2,h1,r,h4,h3⟩;obtain ⟨k,z,hk,hz,hc⟩:=one e' i x hi he;exact hc.trans (ih k z hk hz j y hj he2)
     intro a ha;exact key _ _ (hall _ (gM h0) _ (gM ha)) 0 _ (List.getElem?_eq_getElem h0) I a _ (List.getElem?_eq_getElem ha) I
   rw[← hconn,← hsa];constructor
   ·intro h;refine⟨(m6 tl l).1 hs,(vO tl l).1 hm,?_⟩;refine zg7 fun hne=>?_;rw[zf8 oM] at h;exact absurd h dC
   ·rintro ⟨_,_,h⟩;rw[zf7 oM]
  ·have hm':(em tl l).any (fun p=>decide ((p.2.length:Int)≠2))=true:=by simpa using hm
   rw[zf8 hm'];exact⟨fun h=>absurd h dC,fun h=>absurd ((vO tl l).2 h.2.1) hm⟩
 ·have hs':(eO tl l).any (fun p=>decide (p.2≠0))=true:=by simpa using hs
  rw[zf8 hs'];exact⟨fun h=>absurd h dC,fun h=>absurd ((m6 tl l).2 h.1) hs⟩
structure Fm (tl:List Cl)(c:Cl):Prop where
 dim:0≤c.dim∧c.dim≤8
 cnt:aU c=false
 found:∀ x∈c.sides,∃ d,ab tl x.cell=some d∧d.dim=c.dim - 1
 asc:c.sides.Pairwise fun a b=>a.cell<b.cell
 sg:∀ x∈c.sides,x.sign=1∨x.sign = -1
 one:c.dim=1→mo c.sides=0
theorem Fm.ok {tl:List Cl}{c:Cl}(h:Fm tl c):bV tl c=0:=DI h.dim h.cnt h.found h.asc h.sg h.one
theorem EH {l:List ah}(hs:l.Pairwise fun a b=>a.cell≤b.cell)(hd:∀ i x y,l[i]?=some x→l[i+1]?=some y→x.cell≠y.cell):l.Pairwise fun a b=>a.cell<b.cell:=by
 induction l with
 | nil=>exact List.Pairwise.nil
 | cons a r ih =>
  obtain ⟨h1,h2⟩:=zk1.1 hs;have hr:=ih h2 fun i x y hx hy=>hd (i+1) x y (by simpa using hx) (by simpa using hy);refine zk1.2 ⟨fun b hb=>?_,hr⟩;cases r with
  | nil=>simp at hb
  | cons z q =>
   have hz:a.cell<z.cell:=by
    have:=h1 z (by simp);have:=hd 0 a z rfl rfl;omega
   rcases ze8.1 hb with rfl | hb
   ·exact hz
   ·have:=(zk1.1 hr).1 b hb;omega
theorem E5 {tl:List Cl}{c:Cl}(h:bV tl c=0)(hs:c.sides.Pairwise fun a b=>a.cell≤b.cell):Fm tl c:=by
 unfold bV at h;split at h
 ·cases h
 ·rename_i h1;split at h
  ·cases h
  ·rename_i h2;split at h
   ·cases h
   ·rename_i h3;split at h
    ·cases h
    ·rename_i h4;split at h
     ·cases h
     ·rename_i h5;have hbad:∀ i x,c.sides[i]?=some x→bL tl c i x=false:=fun i x hx=>by
       have hi:=(zf3.1 hx).1;have:=zk3.1 ((zj5 _).mp h3) i (List.mem_range.2 hi);unfold il at this;rw[hx] at this;simpa using this
      refine⟨?_,by simpa using h2,fun x hx=>?_,EH hs fun i x y hx hy e=>?_,fun x hx=>?_,fun hd=>?_⟩
      ·simp[eY] at h1; omega
      ·obtain ⟨i,hi,rfl⟩:=zc6 hx;have:=hbad i _ (List.getElem?_eq_getElem hi);unfold bL at this;simp only[Bool.or_eq_false_iff,Bool.not_eq_false',decide_eq_false_iff_not,ne_eq,Decidable.not_not] at this;obtain ⟨⟨g1,g2⟩,_⟩:=this;obtain ⟨d,hd⟩:=zh6.1 g1;rw[hd] at g2;exact⟨d,hd,g2⟩
      ·have:=hbad (i+1) y hy;unfold bL at this;rw[show i+1 - 1=i by omega,hx] at this;simp[e] at this
      ·have:=zk3.1 ((zj5 _).mp h4) x hx;simp[bB] at this;by_cases h6:x.sign=1
       ·exact .inl h6
       ·exact .inr (this h6)
      ·simpa [hd] using h5
structure Rt (l:List Cl):Prop where
 few:l.length≤4000
 asc:l.Pairwise fun a b=>a.id<b.id
 pos:∀ x∈l,0<x.id
 form:∀ x∈l,Fm l x
 around:∀ x∈l,x.dim>1→a6 l x=0
theorem Rt.canon {l:List Cl}(h:Rt l):aa l=l:=by
 unfold aa;rw[(a8 (key:=Cl.id) (h.asc.imp fun h=>by omega) (aw.refl l)).symm];have:∀ c∈l,bo c=c:=fun c hc=>by
  unfold bo;rw[(a8 (key:=ah.cell) ((h.form c hc).asc.imp fun h=>by omega) (aw.refl c.sides)).symm]
 rw[zc7 this];simp
theorem Rt.tab {l:List Cl}(h:Rt l):ai l=l:=by rw[bD (by rw[h.canon]; exact h.asc),h.canon]
theorem Rt.check {l:List Cl}(h:Rt l):au l=(0,0):=by
 refine wj h.few ?_ ?_ ?_ ?_ <;> rw[h.canon]
 ·exact h.pos
 ·exact h.asc
 ·exact fun x hx=>(h.form x hx).ok
 ·exact h.around
theorem Rt.find {l:List Cl}(h:Rt l){c:Cl}(hc:c∈l):ab l c.id=some c:=by
 refine mH ?_ hc;rw[List.Nodup,zk2];exact h.asc.imp fun h=>by omega
theorem jK {tl:List Cl}:∀ {l:List Cl},mM tl l=none→∀ x∈l,x.dim>1→a6 tl x=0
 | [],_,x,hx,_=>by simp at hx
 | y::r,h,x,hx,hd=>by
  unfold mM at h;split at h
  ·cases h
  ·rename_i hn
   rcases ze8.1 hx with rfl | hx
   ·exact zg7 fun h=>hn ⟨hd,h⟩
   ·exact jK h x hx hd
theorem sr {tl:List Cl}:∀ {l:List Cl} {p:Int×Int},mM tl l=some p→p.2≠0
 | [],_,h=>by cases h
 | y::r,p,h=>by
  unfold mM at h;split at h
  ·rename_i hn; cases h; exact hn.2
  ·exact sr h
theorem uU (l:List Cl):∀ c∈aa l,c.sides.Pairwise fun a b=>a.cell≤b.cell:=fun c hc=>by
 obtain ⟨d,_,rfl⟩:=ze9.1 hc;exact bQ d.sides
theorem jW {l:List Cl}(h:(au l).2=0):Rt (aa l):=by
 have h1:=kA h;obtain ⟨h2,h3,h4⟩:=cH h1;have ht:=bD h2;have h5:l.length≤4000:=AH h;refine⟨by rw[ax]; exact h5,h2,h3,fun x hx=>E5 (by rw[← ht]; exact h4 x hx) (uU l x hx),?_⟩;have h6:mM (ai l) (aa l)=none:=by
  unfold au at h;rw[zf7 oM,h1] at h;cases hc:mM (ai l) (aa l) with
  | none=>rfl
  | some p =>
   rw[hc] at h;exact absurd h (sr hc)
 rw[ht] at h6;exact jK h6
theorem na {l m:List Int}(h:l.Perm m):l.sum=m.sum:=by
 induction h with
 | nil=>rfl
 | cons x _ ih=>simp[ih]
 | swap x y l=>simp; omega
 | trans _ _ ih1 ih2=>exact ih1.trans ih2
theorem z8 {l m:List Nat}(h:l.Perm m):l.sum=m.sum:=by
 induction h with
 | nil=>rfl
 | cons x _ ih=>simp[ih]
 | swap x y l=>simp; omega
 | trans _ _ ih1 ih2=>exact ih1.trans ih2
theorem dV {α:Type}{key:α→Int}(l:List α):(sortBy key l).Perm l:=by
 have hi:∀ (x:α) (l:List α),(ins key x l).Perm (x::l):=by
  intro x l;induction l with
  | nil=>exact .refl _
  | cons y r ih =>
   unfold ins;split
   ·exact .refl _
   ·exact (ih.cons y).trans (.swap x y r)
 induction l with
 | nil=>exact .refl _
 | cons x r ih=>exact (hi x _).trans (ih.cons x)
end Go.Proofs.YtbbppeihhkhkcaaGreatDoor
