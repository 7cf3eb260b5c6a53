/- 11 -/
import Derived.Test.YtmmghffoakhheaaGreatDoorRe10
set_option linter.unusedSimpArgs false
set_option linter.unusedVariables false
namespace Go.Proofs.YtmmghffoakhheaaGreatDoor
open _root_.Go.Proofs.Tryz _root_.Go.Proofs.YtmmghffoakhheaaGreatDoor.Tryz
open Go Go.Sy Go.Pl Go.Proofs
set_option maxRecDepth 100000
set_option maxHeartbeats 2000000
theorem SU.min8 {P:Program}{N:Nat}{f:Fr}{dst:Option Tmp}{ty:TypeId}{pos:String}{af:Array Edge}{gd:Option (Nat×Bool)}{x y:Operand}{T U:TypeId}{m n:Int}(hx:ev f x=some (vi m))(hy:ev f y=some (vi n)) :
  SU P N ⟨dst,.call ⟨.builtin .min,#[x,y],#[T,U]⟩,ty,pos,af,gd⟩ f (vi<|min m n):=fun a w ha=>by
 have h:=run_min_int2 (P:=P) (w:=w) #[T,U] ty .i64 .i64 m n;have h2:(if n<m then n else m)=min m n:=by split <;> omega
 rw[h2] at h;simp[execOp,resolve,invoke,builtin,ha.ev hx,ha.ev hy,h]
theorem qz (sp:Nat)(L:List Int):a8 (fM sp L):=by
 unfold fM;split
 ·exact (xl _).1
 ·have h:=fm (sp % 10)<|Nat.mod_lt _ dC;exact⟨oM,fun c hc=>by have:=h.2.2 c hc; omega⟩
theorem kE {c:List Cl}(h:a8 c)(G:List Nat):∀ k,a8 (dq G c k)
 | 0=>h
 | k+1=>by
  have ih:=kE h G k;rw[dq];split
  ·exact oA _ ih
  ·exact ih
theorem vz {c:List Cl}{G:List Nat}{k:Nat}(h:(dq G c k).length>1):dq G c (k+1)=nb (dq G c k) (G.getD k 0):=by
 rw[dq,zg1 h]
theorem uI:∀ n,n<5→∀ c∈kq n,c.sides.length<1000000 ∧ -1000000≤c.id∧c.id≤1000000∧∀ q∈c.sides,-1000000≤q.cell∧q.cell≤1000000:=by decide +kernel
theorem zB (L:List Int):((L.drop 0).take<|min L.length 5 - 0).take 12=L.take 5:=by
 rw[List.drop_zero,Nat.sub_zero,List.take_take];by_cases h:L.length≤5
 ·rw[tL oM,tL h]
 ·congr 1;omega
theorem uM (E:World)(g:PH)(s:Own)(sp bs:Nat)(vL vG:Value)(L:List Int)(G:List Nat)(hL:dJ g vL L)(hG:SlA kJ g vG (G.map fun x:Nat=>(x:Int)))(hsp:sp<256)(hbs:bs<256)(hGb:∀ x∈G,x<256) :
  Ctr Tryz.prog E 10 #[.agg #[.int .u8 (sp:Int),vL,vG,.int .u8 (bs:Int)]] g s (fun y g' s'=>s=s'∧Le g g'∧∃ u,y = .agg #[u]∧ak g' u (fh sp L G bs)):=by
 obtain ⟨pL,cL,rfl⟩:=za3 hL;obtain ⟨pG,cG,rfl⟩:=za3 hG;rw[ze6] at hG ⊢;have hcap:=(SlA.cap hL).2;have hcut:=SlA.cut hL (l:=0) (m:=min L.length 5) oM oM;obtain ⟨q26,hq26⟩:=uJ pL 0 (min L.length 5) cL 1;rw[hq26] at hcut;refine zb1 (args:=[.agg #[.int .u8 (sp:Int),.slice pL L.length cL,.slice pG G.length cG,.int .u8 (bs:Int)]]) func10 I ntmps10 (bE I)<|rZ (bW (bO I) fun b1=>?_);refine bW (aL zl6) fun b2=>tZ<|rZ<|lU (fA yq I sizeOf5 I)<|lK (qL (v:=.int .u8 (sp:Int)) isAgg5 I<|cO 1 I I)<|lU (SU.eq (v':=vi (sp:Int)) (zd9 uT5 uT3 I)<|ze2 vi<|zk9 _ oM)<|lW (SO.call call29 I<|pO E g _ sp) ?_;rintro _ g1 _ ⟨rfl,hle1,u1,rfl,hu1⟩;obtain ⟨q1,d1,rfl⟩:=hu1.form;refine bW (aL zl6) fun b3=>oZ (sK 0 ag I I I I I sB)<|tZ<|SC.cut (ι:=PH×Value) (fun _=>[(1,pp b1 0),(2,pp b2 0),(3,pp b3 0)]) (fun i=>i.1) (fun i=>pt b3 (.cells #[i.2] 29 (0,0))::pt b2 (.cells #[.slice none 0 0] 29 (0,0))::pt b1 (.cells #[.int .u8 (sp:Int),.slice pL L.length cL,.slice pG G.length cG,.int .u8 (bs:Int)] 25 (0,0))::s) (fun i=>Le g i.1∧ak i.1 i.2 (fM sp L)) ?_ ?_
 ·refine rZ<|lU (fA yq I sizeOf5 I)<|lK (qL (v:=.int .u8 (sp:Int)) isAgg5 I<|cO 2 I I)<|lU (SU.eq (v':=.int .u8 ((sp % 26:Nat):Int)) (zd8 I I dC) I)<|lU (gQ I I)<|tZ<|iP I (fun h10=>?_) (fun h10=>?_)
  ·have hf:fM sp L=D2 L:=by unfold fM; rw[zg1 oM]
   refine rG<|lU (fA yq I mS I)<|lK (qL (v:=.slice pL L.length cL) pC I<|cO 2 I I)<|lU (fA yq I mS I)<|lK (qL (v:=.slice pL L.length cL) pC I<|cO 2 I I)<|lU (eN aG I)<|lU (SU.eq (v':=vi ((min L.length 5:Nat):Int)) (SU.min8 I I)<|ze2 vi oM)<|lU (SU.eq (v':=.slice q26 (min L.length 5 - 0)<|cL - 0) (SU.sliceH aG zT3 I I oM oM) hq26)<|lW (SO.call call30 I<|o4 E g1 _ _ _<|za4 hcut hle1) ?_;rintro _ g2 _ ⟨rfl,hle2,u2,rfl,hu2⟩;obtain ⟨q2,d2,rfl⟩:=hu2.form;refine oZ (sK 0 ag I I I I I sB)<|nL<|za8 (g2,_) sB I I ⟨hle1.trans hle2,?_⟩;dsimp only;rw[hf];unfold D2;rw[← zB L];exact hu2
  ·have hf:fM sp L=kq (sp % 10):=by unfold fM; rw[zf9 oM]
   refine kP<|za8 (g1,_) sB I I ⟨hle1,?_⟩;dsimp only;rw[hf];exact hu1
 clear hu1 hle1 hcut hq26 hcap;rintro ⟨g2,u2⟩ ⟨hle2,hu2⟩;dsimp only at hle2 hu2 ⊢;have hFg:=qy sp L;have hFf:=qz sp L;unfold fh;generalize fM sp L=F at *;refine sQ<|rZ<|aT I<|bK<|SC.loop (ι:=PH×Value×Nat) (fun i=>[(1,pp b1 0),(2,pp b2 0),(3,pp b3 0),(4,vi i.2.2)]) (fun i=>i.1) (fun i=>pt b3 (.cells #[i.2.1] 29 (0,0))::pt b2 (.cells #[.slice none 0 0] 29 (0,0))::pt b1 (.cells #[.int .u8 (sp:Int),.slice pL L.length cL,.slice pG G.length cG,.int .u8 (bs:Int)] 25 (0,0))::s)
  (fun i=>Le g i.1∧i.2.2≤G.length∧i.2.2≤6∧ak i.1 i.2.1 (dq G F i.2.2)) (fun i=>G.length - i.2.2) (g2,u2,0) sB rfl rfl ⟨hle2,zf6 _,zf6 _,hu2⟩ ?_
 clear hu2 hle2;rintro ⟨g1,v,k⟩ ⟨hle,hk,hk6,hv⟩;dsimp only at hle hk hk6 hv ⊢;have hCg:=kC hFg G k;have hCf:=kE hFf G k;have hsucc:=@vz F G k;have hstop:=@oy F G k;generalize hCe:dq G F k=C at *;obtain ⟨q,d,rfl⟩:=hv.form;have hCl:=hCg.few;have f1:(k:Int)<(G.length:Int)→(k:Int)<6→((decide ((k:Int)<(G.length:Int))&&decide ((k:Int)<6))&&decide ((C.length:Int)>1))=decide ((C.length:Int)>1):=fun h h2=>by simp[h,h2]
 have f2:(k:Int)<(G.length:Int)→¬ (k:Int)<6→((decide ((k:Int)<(G.length:Int))&&decide ((k:Int)<6))&&decide ((C.length:Int)>1))=false:=fun h h2=>by simp only[h2,decide_false,Bool.and_false,Bool.false_and]
 have f3:¬ (k:Int)<(G.length:Int)→((decide ((k:Int)<(G.length:Int))&&decide ((k:Int)<6))&&decide ((C.length:Int)>1))=false:=fun h=>by simp only[h,decide_false,Bool.false_and]
 refine sQ<|SC.cutB 39 (((decide ((k:Int)<(G.length:Int))&&decide ((k:Int)<6))&&decide ((C.length:Int)>1))) ?_ ?_
 ·refine rG<|lM I<|lU (fA yq I sizeOf23 I)<|lK (qL (v:=.slice pG G.length cG) isAgg23 I<|cO 2 I I)<|lU (eN underlying23 I)<|yL I<|lM I<|sP ?_ ?_
  ·intro h30;refine yC I<|lY I I I (lS I I)<|yP I<|lM I<|sP ?_ ?_
   ·intro h34;exact lY I I I (fA du I di I)<|SL.gq (gT I I I dC) (qL (v:=.slice q C.length d) dU I<|cO 0 I I) dC<|lY I I I (eN aF I)<|lY I I I (gR I I)<|yP I<|nL<|za9 (by (rw[f1 h30 h34]; rfl)) mI
   ·intro h34;exact yA I<|yA I<|yA I<|yA I<|yF I<|nL<|za9 (by (rw[f2 h30 h34]; rfl)) mI
  ·intro h30;exact yA I<|yA I<|yF I<|lM I<|yA I<|yA I<|yA I<|yA I<|yF I<|nL<|za9 (by (rw[f3 h30]; rfl)) mI
 refine iQ I (fun hc=>?_) (fun hc=>?_)
 ·rw[zj3,zj3,zj6,zj6,zj6] at hc;have hkl:k<G.length:=oM;have hC1:C.length>1:=oM;have hne:C≠[]:=fun e=>by subst e; simp at hC1
  have htn:=sC hCg.right hne;have htl:=List.length_pos_iff.2 htn;have hgq:(G.map fun x:Nat=>(x:Int))[((k:Nat):Int).toNat]?=some ((G.getD k 0:Nat):Int):=by
   show (G.map fun x:Nat=>(x:Int))[k]?=_;rw[zh9,gE hkl,zh1,gE hkl]; rfl
  have hq256:G.getD k 0<256:=by
   rw[zh1,gE hkl];exact hGb _<|gM hkl
  have hgo:nb C (G.getD k 0)=C.filter fun x=>decide (x.id≠(cJ C).getD (G.getD k 0 % (cJ C).length) 0):=rfl;have hs1:=hsucc hC1;rw[hgo] at hs1;generalize G.getD k 0=q0 at *;have htlen:(cJ C).length≤C.length:=by
   unfold cJ;rw[ze6];exact zk8 (zc5 _ _)<|dN C
  have hbG:=za5 hG (by rw[ze6]; omega);have hmod:=Nat.mod_lt q0 htl;have hgt:(cJ C)[((q0 % (cJ C).length:Nat):Int).toNat]?=some ((cJ C).getD (q0 % (cJ C).length) 0):=by
   show (cJ C)[q0 % (cJ C).length]?=_;rw[zh1,gE hmod]; rfl
  generalize (cJ C).getD (q0 % (cJ C).length) 0=tid at *;refine kP<|tN<|sQ<|bK<|rZ<|lK (qV 0 ar ag I I I)<|lW (SO.call call31 I<|mF E g1 _ _ C hv hCf) ?_;rintro v43 g4 _ ⟨rfl,hle4,ht4⟩;obtain ⟨qt,dt,rfl⟩:=za3 ht4;have hbT:=za5 ht4 oM;refine aT I (sW I<|lU (fA yq I sizeOf23 I)<|lK (qL (v:=.slice pG G.length cG) isAgg23 I<|cO 2 I I)<|lM I<|lU (iA underlying23 sizeOf5 I I hbG oM sL)<|lK (eB (e:=kJ) isAgg5 I (za6<|za4 hG<|hle.trans hle4) hgq I)<|lU (SU.eq (v':=vi (q0:Int)) (zd9 uT5 uT3 I)<|ze2 vi<|zk9 _ oM)<|lM I<|lU (eN aG I)<|lU (SU.eq (v':=vi ((q0 % (cJ C).length:Nat):Int)) (zd8 I I oM) I)<|lU (iA aG zT3 I I hbT oM sL)<|lK (eB iT3 I (za6 ht4) hgt I)<|aT I<|rZ<|bW (aL zl6) fun b7=>?_);refine tZ<|sQ<|rZ<|aT I<|bK<|zb5 54 3 ?_;obtain ⟨rsv,hrsv,hallv⟩:=hv;have evl:=hallv.length;refine SC.loop (ι:=Value×List Rc×Nat) (fun i=>[(1,pp b1 0),(2,pp b2 0),(3,pp b3 0),(4,vi k),(6,vi tid),(7,pp b7 0),(8,vi i.2.2)]) (fun _=>g4) (fun i=>rowA encCell 54 i.1 i.2.1::pt b7 (.cells #[i.1] 29 (0,0))::pt b3 (.cells #[.slice q C.length d] 29 (0,0))::pt b2 (.cells #[.slice none 0 0] 29 (0,0))::pt b1 (.cells #[.int .u8 (sp:Int),.slice pL L.length cL,.slice pG G.length cG,.int .u8 (bs:Int)] 25 (0,0))::s)
   (fun i=>i.2.2≤C.length∧az (ay g4) ((C.take i.2.2).filter fun x=>decide (x.id≠tid)) i.2.1) (fun i=>C.length - i.2.2) (.slice none 0 0,[],0) sB rfl rfl ⟨zf6 _,trivial⟩ ?_
  rintro ⟨ov,rcs,j⟩ ⟨hj,hrcs⟩;dsimp only at hj hrcs ⊢;have hrl:=hrcs.length;have hfl:=zc5 (fun x:Cl=>decide (x.id≠tid))<|C.take j;rw[ze4] at hfl;refine sQ<|sW I<|lU (fA du I di I)<|lK (qL (v:=.slice q C.length d) dU I<|cO 2 I I)<|lU (eN aF I)<|yL I<|tZ<|iP I (fun hlt=>?_) (fun hlt=>?_)
  ·have hjl:j<C.length:=oM;have hjr:j<rsv.length:=oM;have hb1:=hrsv.based oM;have hxr:=(hallv.get (gE hjl)<|gE hjr).mono hle4;have hgx:rsv[((j:Nat):Int).toNat]?=some rsv[j]:=gE hjr;have htk:C.take (j+1)=C.take j++[C[j]]:=tS hjl;generalize C[j]=x at *;obtain ⟨xp,xcap,hrx,hxs⟩:=dY hxr;rw[hrx] at hgx hxr;refine kP<|tN<|sQ<|bK<|rZ<|lU (fA du I di I)<|lK (qL (v:=.slice q C.length d) dU I<|cO 2 I I)<|lM I<|lU (iA aF au I I hb1 oM sL)<|lU (fC aw I zT3 I hb1)<|lK (aZ (e:=encCell) (o:=0) (u:=vi x.id) iT3 I (hrsv.mono hle4).rd hgx I)<|lM I<|lU (nQ I I)<|tZ<|iP I (fun hd=>?_) (fun hd=>?_)
   ·have hft:(C.take<|j+1).filter (fun x=>decide (x.id≠tid))=(C.take j).filter (fun x=>decide (x.id≠tid))++[x]:=by
     rw[htk,zh6];simp[hd]
    refine dW [8,10] [(0,2),(1,1),(2,2),(3,1),(4,2),(5,2),(6,1),(7,0),(8,0),(9,2),(10,0)] ze3 kR<|pU I (fA du I di I)<|pK I (qL (v:=ov) dU I<|cO 1 I I)<|pU I (fA du I di I)<|pK I (qL (v:=.slice q C.length d) dU I<|cO 2 I I)<|yM I<|pU I (iA aF au I I hb1 oM sL)<|pK I (eA bQ au I (hrsv.mono hle4).rd hgx)<|SP.o I (bS sty27 I I I (ab ⟨I,trivial⟩) dC) dC (.inr iR) ?_;rintro _ _ _ ⟨b78,rfl,rfl,rfl⟩;refine SP.o I (aP (e:=encCell) 0 ⟨x.id,x.dim,⟨xp,x.sides.length,xcap⟩⟩ sty27 I I I I I oM oM) dC (.inl dC) ?_;rintro v79 _ _ ⟨rfl,rfl⟩;refine zd2 fun ⟨w0,hw0⟩=>?_;obtain ⟨q9,d9,rfl⟩:=aj (e:=encCell) (l:=rcs++[(⟨x.id,x.dim,⟨xp,x.sides.length,xcap⟩⟩:Rc)]) (i:=0) hw0 rfl;clear hw0 w0;refine pU I (fA du I di I)<|SP.on I (sK 1 di I I I I I sB) (.inl dC) ?_;rintro _ _ _ ⟨rfl,rfl⟩;exact pN<|bN<|tN<|rG<|lM I<|yD I<|lA I<|nL<|ST.again (.slice q9 (rcs++[(⟨x.id,x.dim,⟨xp,x.sides.length,xcap⟩⟩:Rc)]).length d9,rcs++[⟨x.id,x.dim,⟨xp,x.sides.length,xcap⟩⟩],j+1) sB I I ⟨lN,by dsimp only; rw[hft]; exact hrcs.append ⟨hxr,trivial⟩⟩ lN
   ·have hft:(C.take<|j+1).filter (fun x=>decide (x.id≠tid))=(C.take j).filter (fun x=>decide (x.id≠tid)):=by
     rw[htk,zh6];simp only[zi6,hd,decide_false,Bool.false_eq_true,if_false,List.filter_nil,zc6]
    exact kP<|bN<|tN<|rG<|lM I<|yD I<|lA I<|nL<|ST.again (ov,rcs,j+1) sB I I ⟨lN,by dsimp only; rw[hft]; exact hrcs⟩ lN
  ·have hjj:C.take j=C:=tL oM;rw[hjj] at hrcs;refine xI (tX<|tX<|bX<|tN<|fS fun g5 hle5 hs5=>?_);have hov:ak g5 ov (dq G F<|k+1):=by rw[hs1]; exact⟨rcs,hs5,hrcs.mono fun _ _=>ay.mono hle5⟩
   obtain ⟨qo,do_,rfl⟩:=hov.form;exact rG<|lK (qV 0 ar ag I I I)<|oZ (sK 1 ag I I I I I sB)<|nL<|bN<|tN<|rG<|lM I<|yD I<|lA I<|nL<|dR (s':=pt b3 (.cells #[.slice qo (dq G F<|k+1).length do_] 29 (0,0))::pt b2 (.cells #[.slice none 0 0] 29 (0,0))::pt b1 (.cells #[.int .u8 (sp:Int),.slice pL L.length cL,.slice pG G.length cG,.int .u8 (bs:Int)] 25 (0,0))::s) (.cons _<|.refl _)<|ST.again (g5,_,k+1) sB I I ⟨hle.trans<|hle4.trans hle5,lN,lN,hov⟩ lN
 ·have hend:dq G F (min 6 G.length)=C:=by
   rw[Bool.and_eq_false_iff,Bool.and_eq_false_iff,decide_eq_false_iff_not,decide_eq_false_iff_not,decide_eq_false_iff_not] at hc;by_cases h1:C.length>1
   ·rw[show min 6 G.length=k by omega];exact hCe
   ·exact hstop oM oM
  rw[hend];have f4:(((bs % 4:Nat):Int)=3)→(decide (((bs % 4:Nat):Int)=3)&&decide ((C.length:Int)<26))=decide ((C.length:Int)<26):=fun h=>by simp only[h,decide_true,Bool.true_and]
  have f5:¬ (((bs % 4:Nat):Int)=3)→(decide (((bs % 4:Nat):Int)=3)&&decide ((C.length:Int)<26))=false:=fun h=>by simp only[h,decide_false,Bool.false_and]
  have hu8:∀ m:Nat,m<256→IntKind.u8.wrap (m:Int)=(m:Int):=fun m hm=>by
   unfold IntKind.wrap;simp[IntKind.bits,IntKind.signed];omega
  have hM1:=wC C 0;have hM2:=wB (K:=4000) (fun x hx=>(hCg.ids x hx).2) 0 dC;have hsl:=(fm (bs / 4 % 5) oM).2.1;have hss:=uI (bs / 4 % 5) oM;have hsm:bs / 4 % 5 % 10=bs / 4 % 5:=oM;have hspc:=fun (g:PH) (s:Own)=>pO E g s<|bs / 4 % 5;rw[hsm] at hspc;refine xI<|tX<|tX<|bX<|tN<|sQ<|SC.cutB 91 ((decide (((bs % 4:Nat):Int)=3)&&decide ((C.length:Int)<26))) ?_ ?_
  ·refine rG<|lU (fA yq I sizeOf5 I)<|lK (qL (v:=.int .u8 (bs:Int)) isAgg5 I<|cO 2 I I)<|lU (SU.eq (v':=.int .u8 ((bs % 4:Nat):Int)) (zd8 I I dC) I)<|yE I<|lM I<|sP ?_ ?_
   ·intro h86;exact lY I I I (fA du I di I)<|SL.gq (gT I I I dC) (qL (v:=.slice q C.length d) dU I<|cO 0 I I) dC<|lY I I I (eN aF I)<|lY I I I (lS I I)<|yP I<|nL<|za9 (by (rw[f4 h86]; rfl)) mI
   ·intro h86;exact yA I<|yA I<|yA I<|yA I<|yF I<|nL<|za9 (by (rw[f5 h86]; rfl)) mI
  refine iQ I (fun hc2=>?_) (fun hc2=>?_)
  ·rw[zj3,zj6,zj6] at hc2;have hif:bs % 4=3∧C.length<26:=oM;rw[zg1 hif];refine dW [8] [(0,1),(1,2),(2,1),(3,2),(4,2),(5,2),(6,0),(7,0),(8,0)] ze3 kR<|pK I (qV 0 ar ag I I I)<|pU I (fA yq I sizeOf5 I)<|pK I (qL (v:=.int .u8 (bs:Int)) isAgg5 I<|cO 2 I I)<|pU I (SU.eq (v':=.int .u8 ((bs / 4:Nat):Int)) (SU.quo I I dC)<|ze2 (Value.int .u8)<|hu8 (bs / 4) oM)<|pU I (SU.eq (v':=vi ((bs / 4:Nat):Int)) (zd9 uT5 uT3 I)<|ze2 vi<|zk9 _ oM)<|pU I (SU.eq (v':=vi ((bs / 4 % 5:Nat):Int)) (zd8 I I dC) I)<|SP.o I (SO.call call29 I<|hspc g1 _) dC (.inr iR) ?_;rintro _ g6 _ ⟨rfl,hle6,u6,rfl,hu6⟩;obtain ⟨q6,d6,rfl⟩:=hu6.form;refine SP.o I (SO.call call32 I<|vK E g6 _ _ _ C _ (hv.mono hle6) hu6 oM oM ⟨hM1.1,by have:rI C≤4000:=hM2; omega⟩ hss) dC (.inr (by rintro _ g7 _ ⟨rfl,hle7,u7,rfl,hu7⟩; exact⟨by exact Le.trans (by assumption) (by assumption),(by exact .refl _)⟩)) ?_;rintro _ g7 _ ⟨rfl,hle7,u7,rfl,hu7⟩;obtain ⟨q7,d7,rfl⟩:=hu7.form;refine SP.on I (sK 0 ag I I I I I sB) (.inl dC) ?_;rintro _ _ _ ⟨rfl,rfl⟩;refine pN<|tN<|rZ<|lK (qV 0 ar ag I I I)<|oZ (sK 1 ag I I I I I sB) ?_;refine tZ<|rE ?_;exact ST.retCD 1 s (.inl I) results10 I ar ag I I uR ⟨I,hle.trans<|hle6.trans hle7,_,I,hu7⟩
  ·rw[Bool.and_eq_false_iff,decide_eq_false_iff_not,decide_eq_false_iff_not] at hc2;have hif:¬ (bs % 4=3∧C.length<26):=oM;rw[zf9 hif];exact kP<|tN<|rZ<|lK (qV 0 ar ag I I I)<|oZ (sK 1 ag I I I I I sB)<|tZ<|rE<|ST.retCD 1 s (.inl I) results10 I ar ag I I uR ⟨I,hle,_,I,hv⟩
set_option maxHeartbeats 1000000
theorem vh (a b:Int)(h0:0<b)(h1:b≤1099511627776):0≤fu a b∧fu a b<b:=by
 have h2:a.tmod b<b:=Int.tmod_lt_of_pos a h0;have h3 : -b<a.tmod b:=by
  have:=Int.lt_tmod_of_pos a h0;omega
 unfold fu;rw[zk9 _ oM,Int.tmod_eq_emod_of_nonneg oM];exact⟨Int.emod_nonneg _ oM,Int.emod_lt_of_pos _ h0⟩
theorem eO (a:Int)(n:Nat)(h0:0<n)(h1:n≤1099511627776):fu a n=(((fu a n).toNat:Nat):Int)∧(fu a n).toNat<n:=by
 have:=vh a n oM oM;omega
def jR (P:List Pr)(n:Int):Pr:=if n.tmod 5=4∨P.length=0 then (n.tmod 13,(IntKind.i64.wrap<|n.tdiv 13).tmod 17) else P.getD (fu n P.length).toNat (0,0)
def sj (P:List Pr)(ns:List Int):List Pr:=(ns.take 30).map (jR P)
theorem AO (E:World)(g:PH)(s:Own)(v vn:Value)(l:List Cl)(ns:List Int)(hv:ak g v l)(hf:a8 l)(hl:l.length≤1000000)(hn:dJ g vn ns)(hPl:(eX l).length≤1099511627776) :
  Ctr Tryz.prog E 11 #[.agg #[v],vn] g s (fun r g' s'=>s=s'∧Le g g'∧SlA ax (mns g' g) r (sj (eX l) ns)):=by
 obtain ⟨p,c,rfl⟩:=za3 hn;obtain ⟨q,d,rfl⟩:=hv.form;refine zb1 (args:=[.agg #[.slice q l.length d],.slice p ns.length c]) func11 I ntmps11 (bE I)<|rZ (bW (bO I) fun b2=>?_);refine aT I<|rZ<|lK (qV 0 ar ag I I I)<|lW (SO.call call26 I<|mJ E g _ _ l hv hf hl) ?_;rintro v9 g1 _ ⟨rfl,hle1,hP⟩;obtain ⟨qp,dp,rfl⟩:=za3 hP;refine aT I<|rZ<|aT I<|sQ<|rZ<|aT I<|bK ?_;generalize eX l=P at *;refine zb5 44 2<|SC.loop (ι:=Value×Nat) (fun i=>[(1,.slice p ns.length c),(4,.slice none 0 0),(5,.slice qp P.length dp),(6,i.1),(7,vi i.2)]) (fun _=>g1)
  (fun i=>rowA ax 44 i.1 ((ns.take i.2).map<|jR P)::pt b2 (.cells #[.slice q l.length d] 29 (0,0))::s)
  (fun i=>i.2≤ns.length∧i.2≤30) (fun i=>ns.length - i.2) (.slice none 0 0,0) sB rfl rfl ⟨zf6 _,zf6 _⟩ ?_
 rintro ⟨w,k⟩ ⟨hk,hk30⟩;dsimp only at hk hk30 ⊢;have f1:(k:Int)<(ns.length:Int)→(decide ((k:Int)<(ns.length:Int))&&decide ((k:Int)<30))=decide ((k:Int)<30):=fun h=>by simp[h]
 have f2:¬ (k:Int)<(ns.length:Int)→(decide ((k:Int)<(ns.length:Int))&&decide ((k:Int)<30))=false:=fun h=>by simp only[h,decide_false,Bool.false_and]
 refine sQ<|SC.cutB 17 ((decide ((k:Int)<(ns.length:Int))&&decide ((k:Int)<30))) ?_ ?_
 ·refine rG<|lM I<|lM I<|lU (eN aG I)<|yL I<|lM I<|sP ?_ ?_
  ·intro h14;exact yC I<|lY I I I (lS I I)<|yP I<|nL<|za9 (by (rw[f1 h14]; rfl)) mI
  ·intro h14;exact yA I<|yA I<|yF I<|nL<|za9 (by (rw[f2 h14]; rfl)) mI
 refine iQ I (fun hc=>?_) (fun hc=>?_)
 ·rw[zj3,zj6,zj6] at hc;have hkl:k<ns.length:=oM;have hb1:=za5 hn oM;have hgk:ns[((k:Nat):Int).toNat]?=some ns[k]:=gE hkl;have hsucc:=gc hkl<|jR P;have hml:((ns.take k).map<|jR P).length=k:=by rw[ze6,ze4]; omega
  generalize ns[k]=n at *;have f3:n.tmod 5=4→(decide (n.tmod 5=4)||decide ((P.length:Int)=0))=true:=fun h=>by simp only[h,decide_true,Bool.true_or]
  have f4:¬ n.tmod 5=4→(decide (n.tmod 5=4)||decide ((P.length:Int)=0))=decide ((P.length:Int)=0):=fun h=>by simp only[h,decide_false,Bool.false_or]
  refine kP<|tN<|sQ<|bK<|SC.cutB 30 ((decide (n.tmod 5=4)||decide ((P.length:Int)=0))) ?_ ?_
  ·refine rG<|lM I<|lM I<|lU (iA aG zT3 I I hb1 oM sL)<|lK (eB iT3 I (za6<|za4 hn hle1) hgk I)<|lU (zd8 I I dC)<|yE I<|lM I<|sP ?_ ?_
   ·intro h26;exact yA I<|yA I<|yA I<|yP I<|nL<|za9 (by (rw[f3 h26]; rfl)) mI
   ·intro h26;exact yC I<|lY I I I (eN cC I)<|lY I I I (eQ I I)<|yF I<|nL<|za9 (by (rw[f4 h26]; rfl)) mI
  refine iQ I (fun hc2=>?_) (fun hc2=>?_)
  ·rw[zj4,zj6,zj6] at hc2;have ha:jR P n=(n.tmod 13,(IntKind.i64.wrap<|n.tdiv 13).tmod 17):=by unfold jR; rw[zg1 oM]
   rw[ha] at hsucc;refine dW [14] [(0,2),(1,2),(2,2),(3,2),(4,1),(5,2),(6,2),(7,2),(8,2),(9,1),(10,2),(11,2),(12,2),(13,0),(14,0),(15,2)] ze3 kR<|yM I<|yM I<|yM I<|pU I (iA aG zT3 I I hb1 oM sL)<|pK I (eB iT3 I (za6<|za4 hn hle1) hgk I)<|pU I (zd8 I I dC)<|yM I<|yM I<|pU I (iA aG zT3 I I hb1 oM sL)<|pK I (eB iT3 I (za6<|za4 hn hle1) hgk I)<|pU I (SU.quo I I dC)<|pU I (zd8 I I dC)<|pU I (za2 I<|build44 _ _)<|SP.o I (bS sty31 I I I (ab ⟨I,trivial⟩) dC) dC (.inr iR) ?_;rintro _ _ _ ⟨b44,rfl,rfl,rfl⟩;refine SP.o I (aP (e:=ax) 0 (n.tmod 13,(IntKind.i64.wrap<|n.tdiv 13).tmod 17) sty31 I I I I I oM oM) dC (.inl dC) ?_;rintro v45 _ _ ⟨rfl,rfl⟩;refine pU I (aS I)<|pN<|bN<|tN<|rG<|lM I<|yD I<|lA I<|nL ?_;refine ST.to (fun w hw=>?_) (g':=g1) (s':=rowA ax 44 v45 ((ns.take<|k+1).map<|jR P)::pt b2 (.cells #[.slice q l.length d] 29 (0,0))::s) ?_
   ·rw[hsucc]; exact hw
   exact ST.again (v45,k+1) sB I I ⟨lN,lN⟩ lN
  ·rw[Bool.or_eq_false_iff,decide_eq_false_iff_not,decide_eq_false_iff_not] at hc2;have ha:jR P n=P.getD (fu n P.length).toNat (0,0):=by unfold jR; rw[zf9 oM]
   obtain ⟨hm1,hm2⟩:=eO n P.length oM hPl;have hbP:=za5 hP oM;rw[ha] at hsucc;generalize hme:(fu n P.length).toNat=m at *;have hgm:P[((m:Nat):Int).toNat]?=some (P.getD m (0,0)):=by
    show P[m]?=_;rw[zh1,gE hm2]; rfl
   generalize P.getD m (0,0)=x at *;have hmod:=fun (g:PH) (s:Own)=>ek E g s n P.length oM;rw[hm1] at hmod;refine rG<|lM I<|lM I<|lM I<|lM I<|lU (iA aG zT3 I I hb1 oM sL)<|lK (eB iT3 I (za6<|za4 hn hle1) hgk I)<|lM I<|lU (eN cC I)<|lW (SO.call call19 I<|hmod g1 _) ?_;rintro _ _ _ ⟨rfl,rfl,rfl⟩;refine lU (iA cC bM I I hbP oM sL)<|lK (eA kI bM I (za6 hP) hgm)<|lW (bS sty31 I I I (ab ⟨I,trivial⟩) dC) ?_;rintro _ _ _ ⟨b57,rfl,rfl,rfl⟩;refine lW (aP (e:=ax) 0 x sty31 I I I I I oM oM) ?_;rintro v58 _ _ ⟨rfl,rfl⟩;refine lA I<|nL<|bN<|tN<|rG<|lM I<|yD I<|lA I<|nL ?_;refine ST.to (fun w hw=>?_) (g':=g1) (s':=rowA ax 44 v58 ((ns.take<|k+1).map<|jR P)::pt b2 (.cells #[.slice q l.length d] 29 (0,0))::s) ?_
   ·rw[hsucc]; exact hw
   exact ST.again (v58,k+1) sB I I ⟨lN,lN⟩ lN
 ·have hls:ns.take k=ns.take 30:=by
   rw[Bool.and_eq_false_iff,decide_eq_false_iff_not,decide_eq_false_iff_not] at hc;by_cases h5:k=30
   ·rw[h5]
   ·rw[tL oM,tL oM]
  rw[hls];refine xI (tX<|tX<|bX<|tN<|sQ<|SC.freezeRowK fun g3 hle3 hs3=>?_);have hov:SlA ax (mns g3 g) w (sj P ns):=za4 hs3.sl<|kN hle1;exact rG<|lM I<|aT I<|rE<|dR (s':=s) uR<|za7 (.inl I) results11 I ⟨I,hle1.trans hle3,hov⟩
theorem qv {α β:Type}{f:α→List β}{K:Nat}(h:∀ a,(f a).length≤K):∀ l:List α,(l.flatMap f).length≤l.length * K
 | []=>by simp
 | a::l=>by
  have:=h a;have:=qv h l;rw[zh5,ze5,ze8,Nat.add_mul,Nat.one_mul];omega
theorem qh (l:List Cl)(h:l.length≤8000):(eX l).length≤64000000:=by
 have ht:=dN l;have h1:(eX l).length≤(aW l).length * (aW l).length:=by
  unfold eX;exact qv (fun c=>by rw[ze6]; exact lh l c.id) _
 have h2:(aW l).length * (aW l).length≤8000 * 8000:=Nat.mul_le_mul oM oM;omega
theorem Ao (l:List Cl)(m:List Pr):(kB l m).length≤m.length:=by
 have:=iy l m [];unfold kB;simpa using this
theorem oB (l:List Cl)(m:List Pr)(h:l.length≤8000):(eF l m).length≤m.length+64000000:=by
 unfold eF;split
 ·have:=iy l (eX l)<|kB l m;have:=Ao l m;have:=qh l h;omega
 ·simp
theorem yb (P:List Pr)(ns:List Int):(sj P ns).length≤30:=by
 unfold sj;rw[ze6,ze4];omega
theorem ua (sp:Nat)(L:List Int)(G:List Nat)(bs:Nat):a8 (fh sp L G bs)∧(fh sp L G bs).length≤8000:=by
 have hr:=(mO sp L G bs).1.few;rw[aN] at hr;refine⟨⟨oM,?_⟩,oM⟩;have hf:=kE (qz sp L) G<|min 6 G.length;unfold fh;split
 ·intro c hc;unfold j9 at hc
  rcases zf3.1 hc with hc | hc
  ·exact hf.2 c hc
  ·obtain ⟨d,hd,rfl⟩:=zf2.1 hc;have:=(fm (bs / 4 % 5) oM).2.2 d hd;unfold shC;dsimp only;rw[ze6];omega
 ·exact hf.2
theorem o3 (E:World)(g:PH)(s:Own):Ctr Tryz.prog E 28 #[] g s (fun r g' s'=>s=s'∧Le g g'∧∃ u,r = .agg #[u]∧ak g' u jZ):=by
 refine zb1 (args:=[]) func28 I ntmps28 (bE I)<|rZ (bW (aL zl6) fun b0=>?_);refine tZ<|rZ<|lW (bS sty22 I I I (ab sB) dC) ?_;rintro _ _ _ ⟨b1,rfl,rfl,rfl⟩;refine zb4 fun g1 hle1 hb1=>?_;refine lW (bS sty108 I I I (ab ⟨I,trivial⟩) dC) ?_;rintro _ _ _ ⟨b2,rfl,rfl,rfl⟩;refine zb4 fun g2 hle2 hb2=>?_;have hlit:f9 g2 (.slice (some ⟨b2,0,none⟩) 1 1) [[0,1,2]]:=⟨[svOf<|.slice (some ⟨b1,0,none⟩) 3 3],SlA.lit hb2 rfl rfl,⟨SlA.lit (hle2 _ _ hb1) rfl rfl,trivial⟩⟩;refine lW (SO.call call58 I<|gY E g2 _ _ _ hlit dC dC) ?_;rintro _ g3 _ ⟨rfl,hle3,u,rfl,hu⟩;rw[Bv] at hu;obtain ⟨q,d,rfl⟩:=hu.form;exact oZ (sK 0 ag I I I I I sB)<|tZ<|rE<|ST.retCD 0 s (.inl I) results28 I ar ag I I uR ⟨I,hle1.trans<|hle2.trans hle3,_,I,hu⟩
def EB:Prop:=∀ (E:World) (g:PH) (s:Own),Ctr Tryz.prog E 9 #[] g s (fun r g' s'=>r=vb true∧s=s'∧Le g g')
theorem t8 (E:World)(g:PH)(s:Own)(v:Value)(l:List Cl)(hv:ak g v l)(hf:a8 l) :
  Ctr Tryz.prog E 73 #[.agg #[v]] g s (fun r g' s'=>r=vb (decide ((aq l).2=0))∧g=g'∧s=s'):=by
 obtain ⟨q,d,rfl⟩:=hv.form;refine zb1 (args:=[.agg #[.slice q l.length d]]) func73 I ntmps73 (bE I)<|rZ (bW (bO I) fun b1=>?_);refine aT I<|rZ<|lK (qV 0 ar ag I I I)<|lW (SO.call call24 I<|jX E g _ _ l hv hf) ?_;rintro _ _ _ ⟨rfl,rfl,rfl⟩;exact lM I<|yX I<|yX I<|lA I<|aT I<|sW I<|yE I<|aT I<|rE<|dR (s':=s) uR<|za7 (.inl I) results73 I ⟨I,I,I⟩
section
variable {P:Program}{N:Nat}{E:World}{f:Fr}{g:PH}{s:Own}{dst:Option Tmp}{ty:TypeId}{pos:String}{af:Array Edge}{gd:Option (Nat×Bool)}
variable {t kt et:TypeId}{z:Value}{b:Nat}{l:List (Int×Value)}{x y u:Operand}{k:Int}{v:Value}
theorem SO.insertK (i:Nat)(hT:MTy P t kt et z)(hx:ev f x=some (.map<|some b))(hy:ev f y=some (vi k))(hu:ev f u=some v)(hi:s[i]?=some (mp b l)) :
  SO P N E ⟨dst,.insert t x y u,ty,pos,af,gd⟩ f g s fun _ g' s'=>g=g'∧s'=s.set i (mp b<|dS l k v) :=
 SO.of_skip fun a w ha hw=>by
  obtain ⟨es,clk,h1,h2⟩:=hw.own _<|zg2 hi;have hb:w.heap[b]?=some (.map es clk):=by simpa [mp] using h1
  obtain ⟨es',clk',hr,hm'⟩:=i5 hT hb h2 k v;have hfr:=hw.fresh _ (zg2 hi) b rfl;obtain ⟨e1,e2⟩:=MapKept.heap_set (o':=.map es' clk') hb;refine⟨_,g,s.set i<|mp b<|dS l k v,by simp[execOp,ha.ev hx,ha.ev hy,ha.ev hu,hr]; rfl,?_,rfl,rfl⟩;refine hw.turn hi I ⟨I,(by exact lR _)⟩ I (by simp) (fun q _ hne=>e2 q<|fun e=>hne<|by simp[mp,e]) ⟨es',clk',by simpa [mp] using e1,hm'⟩ (fun b' hb'=>?_);simp only[mp,zg7] at hb';subst hb';exact⟨by simpa using hfr.2,.inl I⟩
end
def ku:List (Int×Value):=[(1,.func (.func 105) #[] #[]),(2,.func (.func 106) #[] #[]),(3,.func (.func 107) #[] #[]),(4,.func (.func 108) #[] #[]),(5,.func (.func 109) #[] #[])]
theorem Tryz.mtyKinds:∃ z,MTy Tryz.prog 120 3 118 z:=⟨_,rfl,rfl,fun _=>rfl⟩
theorem jW (E:World)(g:PH)(s:Own):Ctr Tryz.prog E 72 #[] g s (fun r g' s'=>s=s'∧Le g g'∧∃ b,r = .map (some b)∧Mp g' b ku):=by
 obtain ⟨z,hty⟩:=Tryz.mtyKinds;refine zb1 (args:=[]) func72 I ntmps72 (bE I)<|rZ<|aT I<|rZ<|lW (SO.mkMap) ?_;rintro _ _ _ ⟨b1,rfl,rfl,rfl⟩;refine lO (SO.insertK 0 hty I I I I) ?_;rintro _ _ _ ⟨rfl,rfl⟩;refine lO (SO.insertK 0 hty I I I I) ?_;rintro _ _ _ ⟨rfl,rfl⟩;refine lO (SO.insertK 0 hty I I I I) ?_;rintro _ _ _ ⟨rfl,rfl⟩;refine lO (SO.insertK 0 hty I I I I) ?_;rintro _ _ _ ⟨rfl,rfl⟩;refine lO (SO.insertK 0 hty I I I I) ?_;rintro _ _ _ ⟨rfl,rfl⟩;refine lM I<|aT I<|rE ?_;refine ST.to (g':=g) (s':=mp b1 ku::s) (fun w hw=>hw) ?_;refine ST.freezeMap fun g1 hle1 hm=>?_;exact za7 (.inl I) results72 I ⟨I,hle1,b1,I,hm⟩
end Go.Proofs.YtmmghffoakhheaaGreatDoor
namespace Go.Sy
open Go Go.MapKept
def su:List (Int×Value)→Int→List (Int×Value)
 | [],_=>[]
 | (a,v)::r,k=>if k=a then r else (a,v)::su r k
theorem s9 (k:Int):∀ (l:List (Int×Value)),(∀ p∈l,p.1≠k)→su l k=l
 | [],_=>rfl
 | (a,u)::r,h=>by
  have h1:k≠a:=fun e=>h (a,u) (by simp) e.symm;simp only[su,h1,if_false,s9 k r (fun p hp=>h p<|by simp[hp])]
theorem y8 (k:Int):∀ (l:List (Int×Value)) (i:Nat),(fnd k l i=none∧∀ p∈l,p.1≠k)∨∃ j v,fnd k l i=some (i+j,v)∧j<l.length∧su l k=l.eraseIdx j
 | [],_=>.inl ⟨rfl,by simp⟩
 | (a,v)::r,i=>by
  by_cases h:k=a
  ·subst h;exact .inr ⟨0,v,by simp[fnd],by simp,by simp[su]⟩
  ·rcases y8 k r (i+1) with ⟨h1,h2⟩ | ⟨j,v',h1,h2,h3⟩
   ·refine .inl ⟨by simp[fnd,h,h1],fun p hp=>?_⟩
    rcases zf1.1 hp with e | e
    ·rw[e]; exact fun e2=>h e2.symm
    ·exact h2 p e
   ·exact .inr ⟨j+1,v',by simp[fnd,h,h1]; omega,by simpa using h2,by simp[su,h,h3]⟩
theorem nD {α β:Type}(f:α→β):∀ (l:List α) (j:Nat),(l.eraseIdx j).map f=(l.map f).eraseIdx j
 | [],_=>rfl
 | _::_,0=>rfl
 | x::l,j+1=>ze2 (List.cons<|f x)<|nD f l j
section
variable {P:Program}{w:World}{t kt et ty:TypeId}{z:Value}{b:Nat}{es:Array MapEntry}{clk:Nat}{l:List (Int×Value)}
theorem pl (hT:MTy P t kt et z)(hb:w.heap[b]?=some (.map es clk))(hm:jf l es clk)(k:Int) :
  ∃ es' clk',(Builtin.delete_ #[t,kt] ty #[.map<|some b,vi k]).run P w = .ok (.tuple #[]) { w with heap:=w.heap.setIfInBounds b (.map es' clk') }∧jf (su l k) es' clk':=by
 have hf:=gh k es.toList l 0 hm.1;have h1:=MapKept.run_findKey (w:=w) hT.key hf;have h2:=MapKept.run_checkKey (P:=P) (w:=w) hT.key (k:=vi k) rfl es.isEmpty 9999;have hlen:es.toList.length=l.length:=by have:=ze2 List.length hm.1; simpa using this
 rcases y8 k l 0 with ⟨hn,hne⟩ | ⟨j,u,hs,hj,hdel⟩
 ·refine⟨es,clk,?_,?_⟩
  ·rw[hn] at h1;simp[Builtin.delete_,run_underlying hT.und,MapKept.run_getObj_map hb,h2,h1,MapKept.run_setObj_map _ hb,Result.andThen]
  ·rw[s9 k l hne];exact hm
 ·rw[hs,Nat.zero_add] at h1;refine⟨es.eraseIdxIfInBounds j,clk,?_,?_,stamped_erase hm.2 j⟩
  ·simp[Builtin.delete_,run_underlying hT.und,MapKept.run_getObj_map hb,h2,h1,MapKept.run_setObj_map _ hb,Result.andThen]
  ·have hjs:j<es.size:=by
    have h3:j<es.toList.length:=oM;simpa using h3
   rw[hdel];unfold Array.eraseIdxIfInBounds;rw[dif_pos hjs,Array.toList_eraseIdx,nD,hm.1,← nD]
end
section
variable {P:Program}{N:Nat}{E:World}{ops:Array Oper}{Q:Exit→Act→World→Prop}{f:Fr}{g:PH}{s:Own}{dst:Option Tmp}{ty:TypeId}{pos:String}{af:Array Edge}{gd:Option (Nat×Bool)}
variable {t kt et:TypeId}{z:Value}{b:Nat}{l:List (Int×Value)}{x y:Operand}{k:Int}
theorem SO.delete (i:Nat)(hT:MTy P t kt et z)(hx:ev f x=some (.map<|some b))(hy:ev f y=some (vi k))(hi:s[i]?=some (mp b l)) :
  SO P N E ⟨dst,.call ⟨.builtin .delete,#[x,y],#[t,kt]⟩,ty,pos,af,gd⟩ f g s fun _ g' s'=>g=g'∧s'=s.set i (mp b<|su l k) :=
 SO.of_run fun a w ha hw=>by
  obtain ⟨es,clk,h1,h2⟩:=hw.own _<|zg2 hi;have hb:w.heap[b]?=some (.map es clk):=by simpa [mp] using h1
  obtain ⟨es',clk',hr,hm'⟩:=pl (ty:=ty) hT hb h2 k;have hfr:=hw.fresh _ (zg2 hi) b rfl;obtain ⟨e1,e2⟩:=MapKept.heap_set (o':=.map es' clk') hb;refine⟨_,_,g,s.set i<|mp b<|su l k,by simp[execOp,resolve,invoke,builtin,ha.ev hx,ha.ev hy,hr]; exact⟨I,I⟩,?_,I,I⟩;refine hw.turn hi I ⟨I,(by exact lR _)⟩ I (by simp) (fun q _ hne=>e2 q<|fun e=>hne<|by simp[mp,e]) ⟨es',clk',by simpa [mp] using e1,hm'⟩ (fun b' hb'=>?_);simp only[mp,zg7] at hb';subst hb';exact⟨by simpa using hfr.2,.inl I⟩
end
end Go.Sy
namespace Go.Sy
open Go
section
variable {P:Program}{N:Nat}{E:World}{f:Fr}{g:PH}{s:Own}{dst:Option Tmp}{ty:TypeId}{pos:String}{af:Array Edge}{gd:Option (Nat×Bool)}
theorem SQ.sof {o:Oper}{v:Value}(h:SQ P N E o f g s v):SO P N E o f g s fun v' g' s'=>v'=v∧g=g'∧s=s':=SO.mono h.so fun _ _ _ ⟨h1,h2,h3⟩=>⟨h1,h2.symm,h3.symm⟩
theorem SQ.loadOne {x:Operand}{T:TypeId}{b o:Nat}{v:Value}(hT:∀ w,(isAgg T).run P w = .ok true w)(hk:∀ w,(sizeOf T).run P w = .ok 1 w)(hx:ev f x=some (pp b o))(hc:gO g s ⟨b,o,none⟩ v) :
  SQ P N E ⟨dst,.load T x,ty,pos,af,gd⟩ f g s (.agg #[v]) :=
 SQ.loadAggAt (vs:=[v]) hT hk hx rfl fun j u hu=>by
  cases j with
  | zero=>simp at hu; subst hu; exact hc
  | succ j=>simp at hu
end
section
variable {α:Type}{k:Nat}{P:Program}{N:Nat}{E:World}{f:Fr}{g:PH}{s:Own}{dst:Option Tmp}{ty:TypeId}{pos:String}{af:Array Edge}{gd:Option (Nat×Bool)}
theorem SO.appNewA {e:Enc α k}{bytes:Nat}{x y:Operand}{t T:TypeId}{z u:Value}{p:Option Addr}{m:List α}(hT:STy P t T k bytes z)(hx:ev f x=some (.slice p 0 0))(hy:ev f y=some u)(hu:SlA e g u m)
  (hb:m.length * bytes≤140737488355328) (hlen:m.length≤4611686018427387904) :
  SO P N E ⟨dst,.call ⟨.builtin .append,#[x,y],#[t,t]⟩,ty,pos,af,gd⟩ f g s fun v' g' s'=>g=g'∧s'=rowA e T v' m::s:=fun a w ha hw =>
 aQ (e:=e) (l:=[]) (s:=rowA e T (.slice p 0 0) []::s) 0 hT hx hy rfl hu (by simpa using hb) (by simpa using hlen) a w ha (hw.emptyRow T k p)
end
section
variable {P:Program}{N:Nat}{E:World}{f:Fr}{g:PH}{s:Own}{fn:Func}{R:Value→PH→Own→Prop}{e:Exit}
theorem ST.retCTT {T U:TypeId}{t u q b k:Nat}{cs:Array Value}{fr:Nat×Nat}{x y:Value}(i:Nat)(s':Own)(he:e = .ret∨e = .normal)(hr:fn.results = #[.cell t T,.tmp u,.tmp q])(hv:a7 f t=some (pp b 0))(hu:a7 f u=some x)(hq:a7 f q=some y)
  (hT:∀ w,(isAgg T).run P w = .ok true w) (hk:∀ w,(sizeOf T).run P w = .ok k w)
  (hs:s[i]?=some (pt b<|.cells cs U fr)) (hc:cs.size=k) (hs':s'.Sublist s) (hR:R (.tuple #[.agg cs,x,y]) g s'):ST N E (bodyPost P fn<|nm E R) e f g s :=
 fun a w ha hw=>by
  have h1:=dX (P:=P) hw hT (by rw[hc]; exact hk) hs;have h2:=ha.at_ t _ hv;have h5:=ha.at_ u _ hu;have h6:=ha.at_ q _ hq;simp only[Array.getD_eq_getD_getElem?] at h2 h5 h6;have h3:(results fn a.tmps).run P w = .ok (.tuple #[.agg cs,x,y]) w:=by simp[results,hr,asAddr,pp,h2,h1,h5,h6]
  have h4:nm E R (.returned<|.tuple #[.agg cs,x,y]) w:=⟨_,g,s',rfl,hw.sublist hs',hR⟩
  rcases he with rfl | rfl
  ·exact⟨ha.defers,_,h3,h4⟩
  ·exact⟨ha.defers,_,h3,h4⟩
theorem ST.retCCT {T U T' U':TypeId}{t t' u b b' k k':Nat}{cs cs':Array Value}{fr fr':Nat×Nat}{x:Value}(i i':Nat)(s':Own)(he:e = .ret∨e = .normal)(hr:fn.results = #[.cell t T,.cell t' T',.tmp u])(hv:a7 f t=some (pp b 0))(hv':a7 f t'=some (pp b' 0))(hu:a7 f u=some x)
  (hT:∀ w,(isAgg T).run P w = .ok true w) (hk:∀ w,(sizeOf T).run P w = .ok k w) (hT':∀ w,(isAgg T').run P w = .ok true w) (hk':∀ w,(sizeOf T').run P w = .ok k' w)
  (hs:s[i]?=some (pt b<|.cells cs U fr)) (hc:cs.size=k) (hsb:s[i']?=some (pt b'<|.cells cs' U' fr')) (hc':cs'.size=k') (hs':s'.Sublist s) (hR:R (.tuple #[.agg cs,.agg cs',x]) g s'):ST N E (bodyPost P fn<|nm E R) e f g s :=
 fun a w ha hw=>by
  have h1:=dX (P:=P) hw hT (by rw[hc]; exact hk) hs;have h1':=dX (P:=P) hw hT' (by rw[hc']; exact hk') hsb;have h2:=ha.at_ t _ hv;have h2':=ha.at_ t' _ hv';have h5:=ha.at_ u _ hu;simp only[Array.getD_eq_getD_getElem?] at h2 h2' h5;have h3:(results fn a.tmps).run P w = .ok (.tuple #[.agg cs,.agg cs',x]) w:=by simp[results,hr,asAddr,pp,h2,h2',h1,h1',h5]
  have h4:nm E R (.returned<|.tuple #[.agg cs,.agg cs',x]) w:=⟨_,g,s',rfl,hw.sublist hs',hR⟩
  rcases he with rfl | rfl
  ·exact⟨ha.defers,_,h3,h4⟩
  ·exact⟨ha.defers,_,h3,h4⟩
end
end Go.Sy
namespace Go.Proofs.YtmmghffoakhheaaGreatDoor
open _root_.Go.Proofs.Tryz _root_.Go.Proofs.YtmmghffoakhheaaGreatDoor.Tryz
open Go Go.Sy Go.Pl Go.Proofs
def dK:List Cl→Cl→List Cl
 | [],c=>[c]
 | x::l,c=>if c.id=x.id then c::l else x::dK l c
def iC:List Rc→Rc→List Rc
 | [],c=>[c]
 | x::l,c=>if c.id=x.id then c::l else x::iC l c
def nj:List Cl→Int→List Cl
 | [],_=>[]
 | x::l,k=>if k=x.id then l else x::nj l k
def ni:List Rc→Int→List Rc
 | [],_=>[]
 | x::l,k=>if k=x.id then l else x::ni l k
theorem iT (r:Rc):∀ rs:List Rc,dS (rs.map am) r.id (rcv r)=(iC rs r).map am
 | []=>rfl
 | x::rs=>by
  simp only[zg4,am,dS,iC];by_cases h:r.id=x.id
  ·rw[zg1 h,zg1 h]; rfl
  ·rw[zf9 h,zf9 h];exact ze2 _<|iT r rs
theorem nn (k:Int):∀ rs:List Rc,su (rs.map am) k=(ni rs k).map am
 | []=>rfl
 | x::rs=>by
  simp only[zg4,am,su,ni];by_cases h:k=x.id
  ·rw[zg1 h,zg1 h]
  ·rw[zf9 h,zf9 h];exact ze2 _<|nn k rs
theorem jI {R:Cl→Rc→Prop}(hR:∀ c r,R c r→r.id=c.id){c:Cl}{r:Rc}(h:R c r):∀ {B:List Cl} {rs:List Rc},az R B rs→az R (dK B c) (iC rs r)
 | [],[],_=>⟨h,trivial⟩
 | x::B,y::rs,h2=>by
  have e1:=hR _ _ h;have e2:=hR _ _ h2.1;unfold dK iC;rw[e1,e2];split
  ·exact⟨h,h2.2⟩
  ·exact⟨h2.1,jI hR h h2.2⟩
 | [],_::_,h2=>h2.elim
 | _::_,[],h2=>h2.elim
theorem kU {R:Cl→Rc→Prop}(hR:∀ c r,R c r→r.id=c.id)(k:Int):∀ {B:List Cl} {rs:List Rc},az R B rs→az R (nj B k) (ni rs k)
 | [],[],_=>trivial
 | x::B,y::rs,h2=>by
  have e2:=hR _ _ h2.1;unfold nj ni;rw[e2];split
  ·exact h2.2
  ·exact⟨h2.1,kU hR k h2.2⟩
 | [],_::_,h2=>h2.elim
 | _::_,[],h2=>h2.elim
theorem m8 {c:Cl}:∀ {B:List Cl},(∀ x∈B,x.id≠c.id)→dK B c=B++[c]
 | [],_=>rfl
 | x::B,h=>by
  have h1:¬ c.id=x.id:=fun e=>h x (by simp) e.symm;unfold dK;rw[zf9 h1,m8 fun y hy=>h y (by simp[hy])];rfl
theorem wo {c:Rc}:∀ {B:List Rc},(∀ x∈B,x.id≠c.id)→iC B c=B++[c]
 | [],_=>rfl
 | x::B,h=>by
  have h1:¬ c.id=x.id:=fun e=>h x (by simp) e.symm;unfold iC;rw[zf9 h1,wo fun y hy=>h y (by simp[hy])];rfl
theorem ws {c y:Cl}:∀ {B:List Cl},y∈dK B c→y=c∨y∈B
 | [],h=>by simpa [dK] using h
 | x::B,h=>by
  unfold dK at h;split at h
  ·rcases zf1.1 h with e | e
   ·exact .inl e
   ·exact .inr (by simp[e])
  ·rcases zf1.1 h with e | e
   ·exact .inr (by simp[e])
   ·rcases ws e with e | e
    ·exact .inl e
    ·exact .inr (by simp[e])
theorem fk {c:Cl}:∀ {B:List Cl},(B.map Cl.id).Nodup→((dK B c).map Cl.id).Nodup
 | [],_=>by simp[dK]
 | x::B,h=>by
  rw[zg4,zk3] at h;unfold dK;split
  ·rename_i e;rw[zg4,zk3,e];exact h
  ·rename_i e;rw[zg4,zk3];refine⟨fun hm=>?_,fk h.2⟩;obtain ⟨y,hy,e2⟩:=zf2.1 hm
   rcases ws hy with e3 | e3
   ·exact e (by rw[← e3]; exact e2)
   ·exact h.1 (by rw[← e2]; exact zf2.2 ⟨y,e3,I⟩)
theorem oD (k:Int):∀ {B:List Cl},(B.map Cl.id).Nodup→nj B k=B.filter fun c=>!decide (c.id=k)
 | [],_=>rfl
 | x::B,h=>by
  rw[zg4,zk3] at h;unfold nj;by_cases e:k=x.id
  ·rw[zg1 e,zi6];have h1:∀ y∈B,(!decide (y.id=k))=true:=fun y hy=>by
    have:y.id≠k:=fun e2=>h.1 (by rw[← e,← e2]; exact zf2.2 ⟨y,hy,I⟩);simpa using this
   rw[List.filter_eq_self.2 h1];simp[e]
  ·rw[zf9 e,zi6,oD k h.2];have:(!decide (x.id=k))=true:=by simpa using fun e2=>e e2.symm
   rw[zg1 this]
theorem sG {α:Type}{key:α→Int}{l m:List α}(h:l.Perm m)(hn:(l.map key).Nodup):aA key l m:=by
 refine⟨h.length_eq.symm,fun c=>?_⟩;have hp:=h.filter (fun a=>key a == c);have hone:∀ q:List α,(q.map key).Nodup→(q.filter fun a=>key a == c).length≤1:=by
  intro q;induction q with
  | nil=>intro _; simp
  | cons x r ih =>
   intro hq;rw[zg4,zk3] at hq;rw[zi6];by_cases e:(key x == c)=true
   ·rw[zg1 e];have:r.filter (fun a=>key a == c)=[]:=kG fun y hy e2=>hq.1 (by
     have e1:key x=c:=by simpa using e
     rw[e1,← e2];exact zf2.2 ⟨y,hy,I⟩)
    rw[this];simp
   ·rw[zf9 e];exact ih hq.2
 have h1:=hone l hn
 match hl:l.filter (fun a=>key a == c),hm:m.filter (fun a=>key a == c) with
 | [],[]=>rfl
 | [],y::t=>rw[hl,hm] at hp; exact absurd hp.length_eq (by simp)
 | x::t,[]=>rw[hl,hm] at hp; exact absurd hp.length_eq (by simp)
 | x::t,y::u =>
  rw[hl,hm] at hp;rw[hl] at h1;have ht:t=[]:=zf4 (by simpa using h1);subst ht;have:=hp.length_eq;have hu:u=[]:=zf4 (by simpa using this.symm);subst hu;have:=hp.subset<|List.mem_cons_self ..;simp at this;rw[this]
theorem uf {l m:List Cl}(h:l.Perm m)(hn:(l.map Cl.id).Nodup):aa l=aa m:=by
 have:sortBy Cl.id l=sortBy Cl.id m:=(ck l).unique (ck m)<|(dP l).symm.trans<|(sG h hn).trans<|dP m;unfold aa;rw[this]
set_option maxRecDepth 100000
set_option maxHeartbeats 1000000
structure Ed where
 kind:Int
 cell:Int
 dim:Int
 new:Int
 other:Int
 sides:List Side
 pairs:List Pr
def EdR (g:PH)(v:Value)(e:Ed):Prop:=∃ sv pv,v = .agg #[vi e.kind,vi e.cell,vi e.dim,vi e.new,vi e.other,sv,pv]∧SlA encSide g sv e.sides∧SlA ax g pv e.pairs
theorem EdR.mono {g g':PH}{v:Value}{e:Ed}(h:EdR g v e)(hl:Le g g'):EdR g' v e:=by
 obtain ⟨sv,pv,h1,h2,h3⟩:=h;exact⟨sv,pv,h1,za4 h2 hl,za4 h3 hl⟩
abbrev edP (bx:Nat)(u:Value)(mb ms:Nat)(bk:Bool):Ent:=pt bx (.cells #[u,.map<|some mb,.map<|some ms,vb bk] 150 (0,0))
theorem Tryz.build150 (u:Value)(h:u.cells = #[u])(x y:Option Nat)(w:World):(Instr.build 150 #[(0,.agg #[u]),(1,.map x),(2,.map y)]).run Tryz.prog w = .ok (.agg #[u,.map x,.map y,vb false]) w:=by
 have h2:∀ x,(Value.map x).cells = #[.map x]:=fun _=>rfl;have h3:(Value.agg #[u]).cells = #[u]:=rfl;simp[Instr.build,Instr.fill,h2,h3];rfl
theorem yf {R:Cl→Rc→Prop}(hR:∀ c r,R c r→r.id=c.id){tl:List Cl}{rs:List Rc}(h:az R tl rs)(k:Int):∃ r,(dF (rs.map am) k).getD (.agg #[vi 0,vi 0,.slice none 0 0])=rcv r∧(dF (rs.map am) k).isSome=(ao tl k).isSome:=by
 rcases gj hR h k with ⟨h1,h2⟩ | ⟨c,r,h1,h2,h3⟩
 ·exact⟨yj,by rw[h2]; rfl,by unfold ao; rw[h1,h2]; rfl⟩
 ·exact⟨r,by rw[h2]; rfl,by unfold ao; rw[h1,h2]; rfl⟩
theorem uv (E:World)(g:PH)(s:Own)(v:Value)(l:List Side)(hv:SlA encSide g v l)(hn:l.length<1099511627776) :
  Ctr Tryz.prog E 110 #[v] g s (fun r g' s'=>g=g'∧s'=rowA encSide 56 r l::s):=by
 obtain ⟨p,c,rfl⟩:=za3 hv;refine zb1 (args:=[.slice p l.length c]) func110 I ntmps110 (bE I)<|rZ<|aT I<|sQ<|sW I<|lU (SU.eqlNil aI I I)<|tZ<|iQ I (fun hp=>?_) (fun hp=>?_)
 ·refine rZ<|aT I<|rE<|tR ?_;have hl:l=[]:=by
   cases l with
   | nil=>rfl
   | cons x r =>
    have hb:=za5 hv (by simp);cases p with
    | none=>simp[based] at hb
    | some q=>simp at hp
  subst hl;exact ST.nilRow 56 2<|za7 (.inl I) results110 I ⟨I,I⟩
 ·refine kP<|tN<|rZ<|lW (bS sty37 I I I (ab trivial) dC) ?_;rintro _ _ _ ⟨b5,rfl,rfl,rfl⟩;refine SL.emptyRow 56 2 (some ⟨b5,0,none⟩)<|lM I<|lW (SO.appendE (m:=l.length) 0 l.length (l.flatMap encSide.enc) sty37 I I I I I (Sl.rd hv) (encSide.length l) (encSide.ones l) oM (by simp) oM oM) ?_;rintro r7 _ _ ⟨rfl,rfl⟩;exact aT I<|rE<|dR (s':=rowA encSide 56 r7 l::s) (.cons_cons _<|.cons _<|.refl _)<|za7 (.inl I) results110 I ⟨I,I⟩
theorem wv (E:World)(g:PH)(s:Own)(v:Value)(l:List Cl)(hv:ak g v l)(hf:a8 l)(hnd:((aa l).map Cl.id).Nodup) :
  Ctr Tryz.prog E 74 #[.agg #[v]] g s (fun r g' s'=>Le g g'∧∃ bx u mb ms rs,r=pp bx 0∧ak g' u (aa l)∧az j7 (aa l) rs∧s'=edP bx u mb ms false::mp mb (rs.map am)::mp ms []::(fI (aa l) rs++s)):=by
 have hfc:=ba hf;refine zb1 (args:=[.agg #[v]]) func74 I ntmps74 (bE I)<|rZ (bW (bO I) fun b1=>?_);refine aT I<|rZ<|lK (qV 0 ar ag I I I)<|lW (SO.call call50 I<|jY E g _ v l hv hf) ?_;rintro _ g1 _ ⟨rfl,hle1,u,rfl,hc⟩;have hcc:=hc;obtain ⟨rs,hrs,hall⟩:=hc;obtain ⟨q,d,rfl⟩:=za3 hrs;refine lW (SO.mkMap) ?_;rintro _ _ _ ⟨b8,rfl,rfl,rfl⟩;refine lW (SO.mkMap) ?_;rintro _ _ _ ⟨b9,rfl,rfl,rfl⟩;refine lU (za2 I<|build150 _ I _ _) (bW (bO I) fun b11=>?_);refine aT I<|sQ<|sW I<|lU (nC I)<|lU (fA ce I ag I)<|lU (fA du I di I)<|lK (qL dU I<|cO 0 I I)<|lU (eN aF I)<|lM I<|tZ<|bK ?_;generalize aa l=A at *;have hrl:=hall.length;have hAl:=hfc.1;refine SC.loop (ι:=Nat×List Rc) (fun i=>[(3,pp b11 0),(16,.slice q rs.length d),(17,vi rs.length),(18,vi i.1)]) (fun _=>g1)
  (fun i=>edP b11 (.slice q rs.length d) b8 b9 false::mp b9 []::mp b8 (i.2.map am)::pt b1 (.cells #[v] 29 (0,0))::(fI (A.take i.1) i.2++s))
  (fun i=>i.1≤rs.length∧az j7 (A.take i.1) i.2) (fun i=>rs.length - i.1) (0,[])
  sB rfl rfl ⟨zf6 _,by simp[az]⟩ ?_
 rintro ⟨k,acc⟩ ⟨hk,hacc⟩;dsimp only at hk hacc ⊢;have hal:=hacc.length;refine rZ<|yL I<|tZ<|sQ<|iP I (fun hlt=>?_) (fun hlt=>?_)
 ·have hkr:k<rs.length:=oM;have hkl:k<A.length:=oM;have hb1:=za5 hrs oM;have hcr:=hall.get (gE hkl)<|gE hkr;have hgx:rs[((k:Nat):Int).toNat]?=some rs[k]:=gE hkr;have htk:A.take (k+1)=A.take k++[A[k]]:=tS hkl;have hxl:=hfc.2 _<|gM hkl;have hnew:∀ x∈acc,x.id≠A[k].id:=fun x hx=>by
   obtain ⟨i,hi,rfl⟩:=zc7 hx;have hi2:i<(A.take k).length:=oM;have hi3:i<k:=by rw[ze4] at hi2; omega
   have h1:=(hacc.get (gE hi2)<|gE hi).1;rw[h1,List.getElem_take];intro e;have h2:=zc9.1 (List.nodup_iff_pairwise_ne.1 hnd) i k (by rw[ze6]; omega) (by rw[ze6]; omega) hi3;simp only[List.getElem_map] at h2;exact h2 e
  generalize rs[k]=x at *;generalize A[k]=cx at *;obtain ⟨xi,xd,xp,xn,xc⟩:=x;obtain ⟨e1,e2,hxsl⟩:=hcr;dsimp only at e1 e2 hxsl;have hxn:xn=cx.sides.length:=zc1 hxsl;subst hxn e1 e2;refine kP<|tN<|sQ<|bK<|rZ<|lU (iA aF au I I hb1 oM (show (k:Int)<((rs.length:Nat):Int) by omega)) ?_;refine lK (eA bQ au I (za6 hrs) hgx) (bW (aL zl3) fun b5=>?_);refine oZ (sK 0 au I I I I I sB) ?_;refine tZ<|rZ<|lU (fA aw I aO I)<|lK (qL (v:=.slice xp cx.sides.length xc) bh I<|cO 0 I I)<|lW (SO.call call110 I<|uv E g1 _ _ cx.sides hxsl hxl) ?_;rintro v24 _ _ ⟨rfl,rfl⟩;refine zd3 fun ⟨w0,hw0⟩=>?_;obtain ⟨q2,d2,rfl⟩:=aj (e:=encSide) (l:=cx.sides) (i:=0) hw0 rfl;clear hw0 w0;refine lU (fA aw rfl aO rfl)<|oZ (SO.store1 1 aO rfl rfl rfl rfl (bE rfl)<|by rfl) ?_;refine tZ ?_;refine dW [7] [(0,2),(1,2),(2,2),(3,1),(4,2),(5,1),(6,1),(7,0)] ze3 kR ?_;refine yM I<|pU I (nC I)<|pU I (fA ce I ec I)<|pK I (qL ee I<|cO 2 I I)<|pU I (fA aw I zT3 I)<|pK I (qL iT3 I<|cO 1 I I)<|pK I (qV 1 bQ au I I I)<|SP.on I (SO.mapUpdate 4 mty125 I I I I) (.inl dC) ?_;rintro _ _ _ ⟨rfl,rfl⟩;refine pN<|bN<|tN<|rG<|yD I<|lM I<|nL ?_;refine ST.to (fun w hw=>?_) (g':=g1) (s':=edP b11 (.slice q rs.length d) b8 b9 false::mp b9 []::mp b8 ((acc++[(⟨cx.id,cx.dim,⟨q2,cx.sides.length,d2⟩⟩:Rc)]).map am)::pt b1 (.cells #[v] 29 (0,0))::(fI (A.take<|k+1) (acc++[(⟨cx.id,cx.dim,⟨q2,cx.sides.length,d2⟩⟩:Rc)])++s)) ?_
  ·rw[htk,ol cx _ hal];have hput:dS (acc.map am) cx.id (rcv ⟨cx.id,cx.dim,⟨q2,cx.sides.length,d2⟩⟩)=(acc++[(⟨cx.id,cx.dim,⟨q2,cx.sides.length,d2⟩⟩:Rc)]).map am:=by
    rw[← wo hnew];exact iT ⟨cx.id,cx.dim,⟨q2,cx.sides.length,d2⟩⟩ acc
   rw[← hput];have h1:=(hw.sublist (s':=Bg cx ⟨cx.id,cx.dim,⟨q2,cx.sides.length,d2⟩⟩::(edP b11 (.slice q rs.length d) b8 b9 false::mp b9 []::mp b8 (dS (acc.map am) cx.id<|rcv ⟨cx.id,cx.dim,⟨q2,cx.sides.length,d2⟩⟩)::pt b1 (.cells #[v] 29 (0,0))::fI (A.take k) acc)++s)<|.cons_cons _<|.cons _<|.refl _);have h2:=h1.perm List.perm_middle.symm;simpa using h2
  exact ST.again (k+1,_) sB I I ⟨by dsimp only; omega,by
   dsimp only;rw[htk];exact hacc.append ⟨⟨I,I,I⟩,trivial⟩⟩ (by dsimp only; omega)
 ·have hkk:A.take k=A:=tL oM;rw[hkk] at hacc ⊢;refine xI<|tX<|tX<|bX<|tN<|sW I<|aT I<|rE ?_;refine ST.to (g':=g1) (s':=edP b11 (.slice q rs.length d) b8 b9 false::mp b8 (acc.map am)::mp b9 []::(fI A acc++s)) (fun w hw=>(hw.perm<|List.Perm.cons _<|zk1 _ _ _).sublist<|.cons_cons _<|.cons_cons _<|.cons_cons _<|.cons _<|.refl _) ?_;exact za7 (.inl I) results74 I ⟨hle1,b11,_,b8,b9,acc,I,hcc,hacc,I⟩
theorem bJ (E:World)(g:PH)(s:Own)(bx mb ms:Nat)(u:Value)(bk:Bool)(k:Int)(R:Cl→Rc→Prop)(hR:∀ c r,R c r→r.id=c.id)(B:List Cl)(rs:List Rc)(hall:az R B rs)(i j:Nat)(hi:s[i]?=some (edP bx u mb ms bk))(hj:s[j]?=some (mp mb<|rs.map am)) :
  Ctr Tryz.prog E 135 #[pp bx 0,vi k] g s (fun r g' s'=>r=vb (ao B k).isSome∧g=g'∧s=s'):=by
 obtain ⟨x,hx1,hx2⟩:=yf hR hall k;refine zb1 (args:=[pp bx 0,vi k]) func135 I ntmps135 (bE I)<|rZ<|aT I<|sW I<|lU (nC I)<|lU (fA ce I ec I)<|lK (qL (v:=.map<|some mb) ee I<|cO i hi I)<|lM I<|lK (SQ.eq (v':=.tuple #[rcv x,vb (ao B k).isSome]) (SQ.lookupOk mty125 I I<|bo.own j hj)<|by rw[hx1,hx2]) ?_;refine lM I (yX I<|yX I<|bW (aL zl3) fun b5=>?_);refine oZ (sK 0 au I I I I I sB) ?_;refine aT I<|sW I<|aT I<|rE<|dR (s':=s) uR ?_;exact za7 (.inl I) results135 I ⟨I,I,I⟩
theorem vM (E:World)(g:PH)(s:Own)(bx mb ms:Nat)(u v:Value)(bk:Bool)(e:Ed)(B:List Cl)(rs:List Rc)(hall:az (ay g) B rs)(i j:Nat)(hi:s[i]?=some (edP bx u mb ms bk))(hj:s[j]?=some (mp mb<|rs.map am))(he:EdR g v e)(hes:e.sides.length<1099511627776) :
  Ctr Tryz.prog E 105 #[pp bx 0,v] g s (fun r g' s'=>Le g g'∧((r=vi 54∧(ao B e.cell).isSome=true∧s=s')∨(r=vi 0∧(ao B e.cell).isSome=false∧∃ rs',az (ay g') (dK B ⟨e.cell,e.dim,e.sides⟩) rs'∧s'=s.set j (mp mb<|rs'.map am)))):=by
 obtain ⟨sv,pv,rfl,hsv,hpv⟩:=he;obtain ⟨sp,sc,rfl⟩:=za3 hsv;refine zb1 (args:=[pp bx 0,.agg #[vi e.kind,vi e.cell,vi e.dim,vi e.new,vi e.other,.slice sp e.sides.length sc,pv]]) func105 I ntmps105 (bE I)<|rZ (bW (bO I) fun b3=>?_);refine aT I<|sQ<|sW I<|lU (fA aJ I zT3 I)<|lK (qL iT3 I<|cO 0 I I)<|lW (SO.call call135 I<|bJ E g _ bx mb ms u bk e.cell _ (fun _ _ h=>h.1) B rs hall (i+1) (j+1) hi hj) ?_;rintro _ _ _ ⟨rfl,rfl,rfl⟩;refine tZ<|iQ I (fun hp=>?_) (fun hp=>?_)
 ·exact rZ<|aT I<|rE<|tR<|dR (s':=s) uR<|za7 (.inl I) results105 I ⟨zb8 _,.inl ⟨I,hp,I⟩⟩
 ·refine kP<|tN<|sQ<|dW [14] [(0,2),(1,2),(2,2),(3,1),(4,2),(5,1),(6,2),(7,1),(8,2),(9,1),(10,2),(11,1),(12,0),(13,2),(14,0)] ze3 kR<|yM I<|pU I (nC I)<|pU I (fA ce I ec I)<|pK I (qL (v:=.map<|some mb) ee I<|cO (i+1) hi I)<|pU I (fA aJ I zT3 I)<|pK I (qL iT3 I<|cO 0 I I)<|pU I (fA aJ I zT3 I)<|pK I (qL iT3 I<|cO 0 I I)<|pU I (fA aJ I zT3 I)<|pK I (qL iT3 I<|cO 0 I I)<|pU I (fA aJ I aO I)<|pK I (qL (v:=.slice sp e.sides.length sc) bh I<|cO 0 I I)<|SP.o I (SO.call call110 I<|uv E g _ _ e.sides hsv hes) dC (.inr iR) ?_;rintro v21 _ _ ⟨rfl,rfl⟩;refine SP.freezeRow fun g2 hle2 hs2=>?_;obtain ⟨q2,d2,rfl⟩:=zc2 hs2;refine pU I (za2 I<|buildF54 _ _ _ I)<|SP.on I (SO.mapUpdate (j+1) mty125 I I I hj) (.inl dC) ?_;rintro _ _ _ ⟨rfl,rfl⟩;refine pN<|tN<|rZ<|aT I<|rE<|dR (s':=s.set j<|mp mb<|dS (rs.map am) e.cell<|rcv ⟨e.cell,e.dim,⟨q2,e.sides.length,d2⟩⟩) (.cons _<|.refl _)<|za7 (.inl I) results105 I ⟨hle2,.inr ⟨I,hp,iC rs ⟨e.cell,e.dim,⟨q2,e.sides.length,d2⟩⟩,jI (fun _ _ h=>h.1) ⟨I,I,hs2⟩ (hall.mono fun _ _=>ay.mono hle2),?_⟩⟩;rw[← iT]
theorem uQ (E:World)(g:PH)(s:Own)(bx mb ms:Nat)(u v:Value)(bk:Bool)(e:Ed)(A B:List Cl)(rs:List Rc)(hu:ak g u A)(hf:a8 A)(hall:az (ay g) B rs)(i j:Nat)(hi:s[i]?=some (edP bx u mb ms bk))(hj:s[j]?=some (mp mb<|rs.map am))(hij:j≠i)(he:EdR g v e) :
  Ctr Tryz.prog E 106 #[pp bx 0,v] g s (fun r g' s'=>Le g g'∧((r=vi 30∧(ao B e.cell).isSome=false∧s=s')∨(r=vi 31∧(ao B e.cell).isSome=true∧0<(ah A e.cell).length∧s=s')∨(r=vi 0∧(ao B e.cell).isSome=true∧ah A e.cell=[]∧s'=(s.set j<|mp mb<|(ni rs e.cell).map am).set i (edP bx u mb ms true)))):=by
 obtain ⟨sv,pv,rfl,hsv,hpv⟩:=he;obtain ⟨p,c,rfl⟩:=hu.form;refine zb1 (args:=[pp bx 0,.agg #[vi e.kind,vi e.cell,vi e.dim,vi e.new,vi e.other,sv,pv]]) func106 I ntmps106 (bE I)<|rZ (bW (bO I) fun b3=>?_);refine aT I<|sQ<|bK<|sW I<|lU (fA aJ I zT3 I)<|lK (qL iT3 I<|cO 0 I I)<|lW (SO.call call135 I<|bJ E g _ bx mb ms _ bk e.cell _ (fun _ _ h=>h.1) B rs hall (i+1) (j+1) hi hj) ?_;rintro _ _ _ ⟨rfl,rfl,rfl⟩;refine lU (SU.not I)<|aT I<|iQ I (fun hp=>?_) (fun hp=>?_)
 ·exact rZ<|aT I<|rE<|bR<|tR<|dR (s':=s) uR<|za7 (.inl I) results106 I ⟨zb8 _,.inl ⟨I,by simpa using hp,I⟩⟩
 ·have hp2:(ao B e.cell).isSome=true:=by simpa using hp
  refine sQ<|dW [] [(0,2),(1,2),(2,2),(3,1),(4,2),(5,1),(6,0),(7,2),(8,2),(9,2)] ze3 kR<|yM I<|pU I (nC I)<|pU I (fA ce I ag I)<|pK I (SQ.loadOne ar ag I<|cO (v:=.slice p A.length c) (i+1) hi I)<|pU I (fA aJ I zT3 I)<|pK I (qL iT3 I<|cO 0 I I)<|SP.o I (SO.call call55 I<|eD E g _ _ A e.cell hu hf) dC (.inr iR) ?_;rintro v18 g1 _ ⟨rfl,hle1,ha⟩;obtain ⟨q2,d2,rfl⟩:=za3 ha;refine pU I (eN aG I)<|pU I (gR I I)<|pU I (aS I)<|pN<|tN<|iP I (fun ha0=>?_) (fun ha0=>?_)
  ·exact rZ<|aT I<|rE<|bR<|tR<|dR (s':=s) uR<|za7 (.inl I) results106 I ⟨hle1,.inr<|.inl ⟨I,hp2,oM,I⟩⟩
  ·have hi2:(s.set j<|mp mb<|su (rs.map am) e.cell)[i]?=some (edP bx (.slice p A.length c) mb ms bk):=by rw[List.getElem?_set_ne hij]; exact hi
   refine kP<|bN<|tN<|sQ<|dW [6] [(0,2),(1,2),(2,2),(3,1),(4,2),(5,1),(6,0)] ze3 kR<|yM I<|pU I (nC I)<|pU I (fA ce I ec I)<|pK I (qL (v:=.map<|some mb) ee I<|cO (i+1) hi I)<|pU I (fA aJ I zT3 I)<|pK I (qL iT3 I<|cO 0 I I)<|SP.on I (SO.delete (j+1) mty125 I I hj) (.inl dC) ?_;rintro _ _ _ ⟨rfl,rfl⟩;refine pN<|tN<|sW I<|lU (nC I)<|lU (fA ce I zT4 I)<|oZ (SO.store1 (i+1) zT4 I I hi2 I (bE I) I)<|tZ<|rZ<|aT I<|rE<|dR (s':=(s.set j<|mp mb<|su (rs.map am) e.cell).set i<|edP bx (.slice p A.length c) mb ms true) (.cons _<|.refl _)<|za7 (.inl I) results106 I ⟨hle1,.inr<|.inr ⟨I,hp2,zf4 oM,by rw[← nn]⟩⟩
theorem pZ (E:World)(g:PH)(s:Own)(bx mb ms:Nat)(u:Value)(bk:Bool)(B:List Cl)(rs:List Rc)(hall:az (ay g) B rs)(hn:(B.map Cl.id).Nodup)(hf:a8 B)(hm:Mp g mb (rs.map am))(i:Nat)(hi:s[i]?=some (edP bx u mb ms bk)) :
  Ctr Tryz.prog E 75 #[pp bx 0] g s (fun r g' s'=>s=s'∧Le g g'∧∃ u',r = .agg #[u']∧gw (mns g' g) u' (aa B)):=by
 obtain ⟨es,clk,hes,hmi⟩:=hm;have hrl:=hall.length;have hBl:=hf.1;refine zb1 (args:=[pp bx 0]) func75 I ntmps75 (bE I)<|rZ (bW (aL zl6) fun b2=>?_);refine tZ (rZ<|bW (aL zl6) fun b3=>?_);refine tZ<|sQ<|sW I<|lU (nC I)<|lU (fA ce I ec I)<|lK (qL (v:=.map<|some mb) ee I<|cO (i+2) hi I)<|lW (SO.range underlying125 I hes) ?_;rintro _ _ _ ⟨it,rfl,rfl,rfl⟩;refine tZ<|bK<|zb5 54 3<|SC.loop (ι:=List MapEntry×List Rc×List Cl×Value) (fun _=>[(2,pp b2 0),(3,pp b3 0),(10,pp it 0)]) (fun _=>g)
  (fun i=>rowA encCell 54 i.2.2.2 i.2.1::eJ it mb es clk i.1::pt b3 (.cells #[i.2.2.2] 29 (0,0))::pt b2 (.cells #[.slice none 0 0] 29 (0,0))::s)
  (fun i=>kL (rs.map am) es i.1 (i.2.1.map am)∧az (ay g) i.2.2.1 i.2.1∧(∀ c∈i.2.2.1,c∈B)) (fun i=>rs.length - i.2.1.length)
  ([],[],[],.slice none 0 0) sB rfl rfl ⟨kL.nil _ _,trivial,by simp⟩ ?_
 rintro ⟨vis,acc,vc,ov⟩ ⟨hrv,hacc,hvs⟩;dsimp only at hrv hacc hvs ⊢;have hvle:=hrv.len hmi;simp only[ze6] at hvle;have hal:=hacc.length;refine rZ<|lW (SO.nextP 1 I I hes hmi hrv) ?_;rintro _ _ _ ⟨rfl,hcase⟩
 rcases hcase with ⟨rfl,rfl,hperm⟩ | ⟨e,pr,he,hp1,hk1,hv1,hrv2,rfl,rfl⟩
 ·have hpv:vc.Perm B:=tI (by rw[zi4,i8 hacc]; rfl) hvs hn hall hperm;have hcn:aa vc=aa B:=uf hpv<|(hpv.map Cl.id).symm.nodup hn;have hvf:a8 vc:=⟨by have:=hpv.length_eq; omega,fun c hc=>hf.2 c<|hvs c hc⟩;refine yX I (tZ<|sQ<|cF I<|xI<|tX<|tX<|bX<|tN<|sQ<|fS fun g2 hle2 hs2=>?_);obtain ⟨q2,d2,rfl⟩:=zc2 hs2;refine rG<|lK (qV 1 ar ag I I I)<|lW (SO.call call50 I<|nO E g2 _ _ vc ⟨acc,hs2,hacc.mono fun _ _=>ay.mono hle2⟩ hvf) ?_;rintro _ g3 _ ⟨rfl,hle3,u3,rfl,hu3⟩;rw[hcn] at hu3;have hu4:=hu3.cells<|jo _ _;obtain ⟨q3,d3,rfl⟩:=hu4.form;refine oZ (sK 2 ag I I I I I sB) ?_;refine tZ<|rE ?_;exact ST.retCD 2 s (.inl I) results75 I ar ag I I uR ⟨I,hle2.trans hle3,_,I,hu3.mono<|kN hle2⟩
 ·obtain ⟨x,hx,rfl⟩:=zf2.1 hp1;obtain ⟨cx,hcm,hcx⟩:=wV hall hx;refine yX I (tZ (sQ (za1 I (kP (tN (bK (rZ (lK (SQ.entryP 1 I I hes hmi he hk1 hv1) (yX I (bW (aL zl3) fun b5=>?_))))))))));refine oZ (sK 0 au I I I I I sB)<|tZ ?_;refine SC.to (g':=g) (s':=pt b5 (.cells #[vi x.id,vi x.dim,.slice x.sv.p x.sv.n x.sv.c] 54 (0,0))::rowA encCell 54 ov acc::eJ it mb es clk (vis++[e])::pt b3 (.cells #[ov] 29 (0,0))::pt b2 (.cells #[.slice none 0 0] 29 (0,0))::s) (fun w hw=>hw) ?_;refine rG (lU (fA du I di I) (lK (qL dU I (cO 3 I I)) (lK (qV 0 bQ au I I I) (lW (bS sty27 I I I (ab sB) dC) ?_))));rintro _ _ _ ⟨b18,rfl,rfl,rfl⟩;refine lW (aP (e:=encCell) 1 x sty27 I I I I I oM oM) ?_;rintro ov' _ _ ⟨rfl,rfl⟩;refine zd3 fun ⟨w0,hw0⟩=>?_;obtain ⟨q',d',rfl⟩:=aj (e:=encCell) (l:=acc++[x]) (i:=1) hw0 rfl;clear hw0 w0;refine lU (fA du I di I) (oZ (sK 3 di I I I I I sB) ?_);refine nL (bN (dR (.cons _ (.refl _)) ?_));exact ST.again (vis++[e],acc++[x],vc++[cx],_) sB I I ⟨by dsimp only; rw[zg5]; exact hrv2,hacc.append ⟨hcx,trivial⟩,fun c hc=>by
   rcases zf3.1 hc with h | h
   ·exact hvs c h
   ·simp at h; rw[h]; exact hcm⟩ (by
   have:=hrv2.len hmi;simp only[ze6,ze5,ze7] at this ⊢;omega)
theorem uP (E:World)(g:PH)(s:Own)(bx mb ms:Nat)(u:Value)(bk:Bool)(B:List Cl)(rs:List Rc)(hall:az (ay g) B rs)(hn:(B.map Cl.id).Nodup)(hf:a8 B)(hm:Mp g mb (rs.map am))(i:Nat)(hi:s[i]?=some (edP bx u mb ms bk)) :
  Ctr Tryz.prog E 75 #[pp bx 0] g s (fun r g' s'=>s=s'∧Le g g'∧∃ u',r = .agg #[u']∧ak g' u' (aa B)) :=
 (pZ E g s bx mb ms u bk B rs hall hn hf hm i hi).mono fun _ _ _ ⟨h1,h2,x,h3,h4⟩=>⟨h1,h2,x,h3,h4.cells<|jo _ _⟩
abbrev Tm:=Int×Int
def EC (n:Int):Bool:=decide (n<0)&&decide (yt n.natAbs≠[])
def dw:Enc Tm 3:=⟨fun p=>[vi p.1,vb<|EC p.2,txt<|yt p.2.natAbs],fun _=>rfl,fun _ u hu=>by simp at hu; rcases hu with rfl | rfl | rfl <;> rfl,by decide⟩
structure Im where
 cell:Int
 sv:Sv
def jp:Enc Im 2:=⟨fun r=>[vi r.cell,.slice r.sv.p r.sv.n r.sv.c],fun _=>rfl,fun _ u hu=>by simp at hu; rcases hu with rfl | rfl <;> rfl,by decide⟩
def ImR (g:PH)(c:Int×List Tm)(r:Im):Prop:=r.cell=c.1∧SlA dw g (.slice r.sv.p r.sv.n r.sv.c) c.2
theorem ImR.mono {g g':PH}(hl:Le g g'){c:Int×List Tm}{r:Im}(h:ImR g c r):ImR g' c r:=⟨h.1,za4 h.2 hl⟩
def Ims (g:PH)(v:Value)(l:List (Int×List Tm)):Prop:=∃ rs,SlA jp g v rs∧az (ImR g) l rs
theorem Ims.mono {g g':PH}{v:Value}{l:List (Int×List Tm)}(h:Ims g v l)(hl:Le g g'):Ims g' v l:=by
 obtain ⟨rs,h1,h2⟩:=h;exact⟨rs,za4 h1 hl,h2.mono fun _ _=>ImR.mono hl⟩
theorem Tryz.build156 (x:Int)(b:Bool)(l:List UInt8)(w:World):(Instr.build 156 #[(0,vi x),(1,.agg #[vb b,txt l])]).run Tryz.prog w = .ok (.agg #[vi x,vb b,txt l]) w:=by
 have h1:(vi x).cells = #[vi x]:=rfl;have h2:(Value.agg #[vb b,txt l]).cells = #[vb b,txt l]:=rfl;simp[Instr.build,Instr.fill,h1,h2];rfl
theorem Tryz.build162 (x:Int)(p:Option Addr)(n c:Nat)(w:World):(Instr.build 162 #[(0,vi x),(1,.slice p n c)]).run Tryz.prog w = .ok (.agg #[vi x,.slice p n c]) w:=by
 have h1:(vi x).cells = #[vi x]:=rfl;have h2:(Value.slice p n c).cells = #[.slice p n c]:=rfl;simp[Instr.build,Instr.fill,h1,h2];rfl
theorem Tryz.buildB89 (b:Bool)(w:World):(Instr.build 89 #[(1,vb b)]).run Tryz.prog w = .ok (.agg #[.slice none 0 0,vb b]) w:=by
 have h1:(vb b).cells = #[vb b]:=rfl;simp[Instr.build,Instr.fill,h1];rfl
theorem Tryz.mty148:MTy Tryz.prog 148 3 151 (.slice none 0 0):=⟨underlying148,underlying3,zeroValue151⟩
theorem Tryz.sty151:STy Tryz.prog 151 156 3 32 (.agg #[vi 0,vb false,txt []]):=⟨underlying151,⟨t156,by kernel_rfl,by kernel_rfl,by kernel_rfl,by kernel_rfl⟩,rfl,by decide⟩
theorem Tryz.sty85:STy Tryz.prog 85 162 2 32 (.agg #[vi 0,.slice none 0 0]):=⟨underlying85,⟨t162,by kernel_rfl,by kernel_rfl,by kernel_rfl,by kernel_rfl⟩,rfl,by decide⟩
theorem iq (E:World)(g:PH)(s:Own)(c n:Int)(h0 : -9223372036854775808≤n)(h1:n<9223372036854775808) :
  Ctr Tryz.prog E 112 #[vi c,vi n] g s (fun r g' s'=>r = .agg (dw.enc (c,n)).toArray∧s=s'∧Le g g'):=by
 refine zb1 (args:=[vi c,vi n]) func112 I ntmps112 (bE I)<|rZ (bW (aL zeroValue156) fun b4=>?_);refine tZ<|sW I<|lM I<|lW (SO.call call143 I<|Az E g _ n h0 h1) ?_;rintro _ g1 _ ⟨rfl,rfl,hle1⟩;exact lU (za2 I<|build156 _ _ _)<|oZ (sK 0 sizeOf156 I I I I I sB)<|tZ<|rE<|ST.retCD 0 s (.inl I) results112 I isAgg156 sizeOf156 I I uR ⟨I,I,hle1⟩
theorem xM (E:World)(g:PH)(s:Own)(b2 bx mb ms:Nat)(u:Value)(bk:Bool)(k:Int)(i j q:Nat)(hq:s[q]?=some (pt b2<|.cells #[pp bx 0] 122 (0,0)))(hi:s[i]?=some (edP bx u mb ms bk))(hj:s[j]?=some (mp ms [])) :
  cX Tryz.prog E (.func (.func 111) #[] #[pp b2 0]) [vi k] g s (fun r g' s'=>s=s'∧Le g g'∧SlA dw g' r [(k,1)]):=by
 refine cX.mk (args:=[_]) (cap:=[pp b2 0]) call111<|zb1 (args:=[vi k,pp b2 0]) func111 I ntmps111 (bE I)<|rZ<|aT I<|rZ<|lK (qL (v:=pp bx 0) isAgg122 I<|cO q hq I)<|lU (nC I)<|lU (fA ce I sizeOf148 I)<|lK (qL (v:=.map<|some ms) isAgg148 I<|cO i hi I)<|lM I<|lK (SQ.eq (v':=.tuple #[.slice none 0 0,vb false]) (SQ.lookupOk mty148 I I<|bo.own j hj) I)<|lM I<|yX I<|yX I<|lA I<|aT I<|sQ<|sW I<|lU (SU.not I)<|tZ<|za1 I<|rZ<|lM I<|lW (SO.call call112 I<|iq E g _ k 1 dC dC) ?_;rintro _ g1 _ ⟨rfl,rfl,hle1⟩;refine lW (bS sty151 I I I (ab ⟨I,trivial⟩) dC) ?_;rintro _ _ _ ⟨b19,rfl,rfl,rfl⟩;refine zb4 fun g2 hle2 hb2=>?_;exact aT I<|rE<|tR<|za7 (.inl I) results111 I ⟨I,hle1.trans hle2,SlA.lit hb2 I I⟩
def e6 (c:Cl):Int×List Tm:=(c.id,[(c.id,1)])
theorem zJ (E:World)(g:PH)(s:Own)(bx mb ms:Nat)(u v:Value)(bk:Bool)(A D:List Cl)(hu:ak g u A)(hv:ak g v D)(hA:A.length<1099511627776)(hD:D.length<1099511627776)(i j:Nat)(hi:s[i]?=some (edP bx u mb ms bk))(hj:s[j]?=some (mp ms [])) :
  Ctr Tryz.prog E 76 #[pp bx 0,.agg #[v]] g s (fun r g' s'=>s=s'∧Le g g'∧∃ iv,r = .agg #[iv,vb bk]∧Ims g' iv ((if bk then D else A).map e6)):=by
 obtain ⟨pu,cu,rfl⟩:=hu.form;obtain ⟨pv,cv,rfl⟩:=hv.form;refine zb1 (args:=[pp bx 0,.agg #[.slice pv D.length cv]]) func76 I ntmps76 (bE I)<|rZ (bW (bO I) fun b2=>?_);refine bW (bO I) fun b3=>bW (aL zl1) fun b4=>tZ (rZ<|lK (qL isAgg122 I<|cO 2 I I)<|lU (nC I)<|lU (fA ce I ag I)<|lK (SQ.loadOne ar ag I<|cO (v:=.slice pu A.length cu) (i+3) hi I)<|bW (aL zl6) fun b5=>?_);refine oZ (sK 0 ag I I I I I sB)<|tZ<|SC.cut (ι:=Unit) (fun _=>[(2,pp b2 0),(3,pp b3 0),(4,pp b4 0),(5,pp b5 0)]) (fun _=>g) (fun _=>pt b5 (.cells #[if bk then .slice pv D.length cv else .slice pu A.length cu] 29 (0,0))::pt b4 (.cells #[.slice none 0 0,vb false] 89 (0,0))::pt b3 (.cells #[.slice pv D.length cv] 29 (0,0))::pt b2 (.cells #[pp bx 0] 122 (0,0))::s) (fun _=>True) ?_ ?_
 ·refine rZ<|lK (qL isAgg122 I<|cO 3 I I)<|lU (nC I)<|lU (fA ce I zT4 I)<|lK (qL (v:=vb bk) isAgg4 I<|cO (i+4) hi I)<|tZ ?_;cases bk with
  | true =>
   exact za1 I<|rG<|lK (qV 2 ar ag I I I)<|oZ (sK 0 ag I I I I I sB)<|nL<|za8 () sB I I trivial
  | false =>
   exact cF I<|kP<|za8 () sB I I trivial
 rintro _ -;try dsimp only
 have hF:ak g (if bk then .slice pv D.length cv else .slice pu A.length cu) (if bk then D else A):=by cases bk <;> assumption
 have hFl:(if bk then D else A).length<1099511627776:=by cases bk <;> assumption
 generalize (if bk=true then D else A)=F at *;generalize (if bk=true then Value.slice pv D.length cv else Value.slice pu A.length cu)=w at *;obtain ⟨rs,hrs,hall⟩:=hF;have hrl:=hall.length;obtain ⟨p,c,rfl⟩:=za3 hrs;refine rZ (lK (qL isAgg122 I<|cO 3 I I)<|lU (nC I)<|lU (fA ce I zT4 I)<|lK (qL (v:=vb bk) isAgg4 I<|cO (i+4) hi I)<|lU (za2 I<|buildB89 _)<|bW (aL zl1) fun b6=>?_);refine oZ (sK 0 bD I I I I I sB)<|tZ<|rZ<|lU (SU.mkFunc I)<|aT I<|sQ<|rZ<|lU (fA du I di I)<|lK (qL dU I<|cO 1 I I)<|lU (eN aF I)<|lM I<|tZ<|bK<|zb5 162 2<|SC.loop (ι:=Nat×PH×Value×List Im) (fun i=>[(2,pp b2 0),(4,pp b4 0),(6,pp b6 0),(7,.func (.func 111) #[] #[pp b2 0]),(26,.slice p rs.length c),(27,vi rs.length),(28,vi i.1)]) (fun i=>i.2.1)
  (fun i=>rowA jp 162 i.2.2.1 i.2.2.2::pt b6 (.cells #[i.2.2.1,vb bk] 89 (0,0))::pt b5 (.cells #[.slice p rs.length c] 29 (0,0))::pt b4 (.cells #[.slice none 0 0,vb false] 89 (0,0))::pt b3 (.cells #[.slice pv D.length cv] 29 (0,0))::pt b2 (.cells #[pp bx 0] 122 (0,0))::s)
  (fun i=>i.1≤rs.length∧Le g i.2.1∧az (ImR i.2.1) ((F.take i.1).map e6) i.2.2.2) (fun i=>rs.length - i.1) (0,g,.slice none 0 0,[])
  sB rfl rfl ⟨zf6 _,zb8 g,by simp[az]⟩ ?_
 rintro ⟨k,g1,ov,acc⟩ ⟨hk,hle,hacc⟩;dsimp only at hk hle hacc ⊢;have hal:=hacc.length;rw[ze6,ze4] at hal;refine rZ<|yL I<|tZ<|sQ<|iP I (fun hlt=>?_) (fun hlt=>?_)
 ·have hkr:k<rs.length:=oM;have hkl:k<F.length:=oM;have hb1:=za5 hrs oM;have hcr:=hall.get (gE hkl) (gE hkr);have hgx:rs[((k:Nat):Int).toNat]?=some rs[k]:=gE hkr;have htk:F.take (k+1)=F.take k++[F[k]]:=tS hkl;generalize rs[k]=x at *;generalize F[k]=cx at *;obtain ⟨xi,xd,xp,xn,xc⟩:=x;obtain ⟨e1,e2,-⟩:=hcr;dsimp only at e1 e2;subst e1 e2;refine kP (tN (sQ (bK (rZ (lU (iA aF au I I hb1 oM (show (k:Int)<((rs.length:Nat):Int) by omega)) ?_)))));refine lK (eA bQ au I (za6 (za4 hrs hle)) hgx) (bW (aL zl3) fun b9=>?_);refine oZ (sK 0 au I I I I I sB) ?_;refine tZ ?_;refine dW [11,14] [(0,2),(1,2),(2,1),(3,2),(4,1),(5,2),(6,2),(7,1),(8,0),(9,2),(10,0),(11,0),(12,2),(13,2),(14,0)] ze3 kR ?_;refine pU I (fA underlying89 I mR I) (pU I (fA uh I oV I) (pK I (qL isAgg85 I (cO 2 I I)) (pU I (fA aw I zT3 I) (pK I (qL iT3 I (cO 0 I I)) (yM I (pU I (fA aw I zT3 I) (pK I (qL iT3 I (cO 0 I I)) (SP.o I (SO.callV I I (xM E g1 _ b2 bx mb ms _ bk cx.id (i+7) (j+7) 6 I hi hj)) dC (.inr iR) ?_))))))));rintro v40 g2 _ ⟨rfl,hle2,hch⟩;obtain ⟨q2,d2,rfl⟩:=za3 hch;refine pU I (za2 I (build162 _ _ _ _)) (SP.o I (bS sty85 I I I (ab sB) dC) dC (.inr iR) ?_);rintro _ _ _ ⟨b42,rfl,rfl,rfl⟩;refine SP.o I (aP (e:=jp) 1 ⟨cx.id,⟨q2,1,d2⟩⟩ sty85 I I I I I oM oM) dC (.inl dC) ?_;rintro ov' _ _ ⟨rfl,rfl⟩;refine zd2 fun ⟨w0,hw0⟩=>?_;obtain ⟨q',d',rfl⟩:=aj (e:=jp) (l:=acc++[⟨cx.id,⟨q2,1,d2⟩⟩]) (i:=1) hw0 rfl;clear hw0 w0;refine pU rfl (fA underlying89 rfl mR rfl) (pU rfl (fA uh rfl oV rfl) (SP.on rfl (SO.store1 2 oV rfl rfl rfl rfl (bE rfl) (by rfl)) (.inl dC) ?_));rintro _ _ _ ⟨rfl,rfl⟩;refine pN (bN (tN (rG (yD I (lM I (nL (dR (.cons _ (.refl _)) ?_)))))));exact ST.again (k+1,g2,_,acc++[⟨cx.id,⟨q2,1,d2⟩⟩]) sB I I ⟨by dsimp only; omega,hle.trans hle2,by
   dsimp only;rw[htk,zg5];exact (hacc.mono fun _ _=>ImR.mono hle2).append ⟨⟨I,hch⟩,trivial⟩⟩ (by dsimp only; omega)
 ·have hkk:F.take k=F:=tL oM;rw[hkk] at hacc;refine xI (tX<|tX<|bX<|tN<|sQ<|fS fun g2 hle2 hs2=>?_);obtain ⟨q2,d2,rfl⟩:=zc2 hs2;exact rG<|lK (qV 0 fw bD I I I)<|oZ (sK 2 bD I I I I I sB)<|tZ<|rE<|ST.retCD 2 s (.inl I) results76 I fw bD I I uR ⟨I,hle.trans hle2,_,I,acc,hs2,hacc.mono fun _ _=>ImR.mono hle2⟩
set_option maxHeartbeats 2000000
theorem Ctr.freezeO {P:Program}{E:World}{n:FuncId}{args:Array Value}{g:PH}{L s:Own}{R:Value→PH→Own→Prop}{A:List Cl}{rs:List Rc}(hO:az j7 A rs)
  (h:∀ g1,Le g g1→az (ay g1) A rs→Ctr P E n args g1 (L++s) R):Ctr P E n args g (L++(fI A rs++s)) R:=fun w hw=>by
 have h1:(L++(fI A rs++s)).Perm (fI A rs++(L++s)):=by
  rw[← zg8,← zg8];exact List.perm_append_comm.append_right s
 obtain ⟨g1,h2,h3,h4⟩:=Go.Proofs.YtmmghffoakhheaaGreatDoor.freezeO hO<|hw.perm h1;exact h g1 h2 h4 w h3
def nq (fv:Value)(e:Ed)(A:List Cl)(code:Int)(B:List Cl)(bk:Bool):Prop :=
 ∀ (E:World) (g:PH) (s:Own) (bx mb ms:Nat) (u v:Value) (rs:List Rc),ak g u A→az j7 A rs→EdR g v e →
  cX Tryz.prog E fv [pp bx 0,v] g (edP bx u mb ms false::mp mb (rs.map am)::mp ms []::(fI A rs++s)) (fun r g' s'=>Le g g'∧r=vi code∧(if code=0 then ∃ rs',az (ay g') B rs'∧s'=edP bx u mb ms bk::mp mb (rs'.map am)::mp ms []::s else ∃ h,s'=h++s))
def fl (A:List Cl)(e:Ed):Int:=if (ao A e.cell).isSome then 54 else 0
def iD (A:List Cl)(e:Ed):Int:=if (ao A e.cell).isSome then (if 0<(ah A e.cell).length then 31 else 0) else 30
theorem qI (A:List Cl)(e:Ed)(he:e.sides.length<1099511627776):nq (.func (.func 105) #[] #[]) e A (fl A e) (dK A ⟨e.cell,e.dim,e.sides⟩) false:=by
 intro E g s bx mb ms u v rs hu hO hv;refine cX.mk (args:=[_,_]) (cap:=[]) call105<|Ctr.freezeO (L:=[edP bx u mb ms false,mp mb<|rs.map am,mp ms []]) hO fun g1 hle1 hall=>?_;refine (vM E g1 _ bx mb ms u v false e A rs hall 0 1 I I (hv.mono hle1) he).mono ?_;rintro r g' s' ⟨hle,h⟩;refine⟨hle1.trans hle,?_⟩;unfold fl
 rcases h with ⟨rfl,h1,rfl⟩ | ⟨rfl,h1,rs',h2,rfl⟩
 ·rw[h1];exact⟨I,[edP bx u mb ms false,mp mb<|rs.map am,mp ms []],I⟩
 ·rw[h1];exact⟨I,rs',h2,I⟩
theorem p4 (A:List Cl)(hf:a8 A)(e:Ed):nq (.func (.func 106) #[] #[]) e A (iD A e) (nj A e.cell) true:=by
 intro E g s bx mb ms u v rs hu hO hv;refine cX.mk (args:=[_,_]) (cap:=[]) call106<|Ctr.freezeO (L:=[edP bx u mb ms false,mp mb<|rs.map am,mp ms []]) hO fun g1 hle1 hall=>?_;refine (uQ E g1 _ bx mb ms u v false e A A rs (hu.mono hle1) hf hall 0 1 I I dC<|hv.mono hle1).mono ?_;rintro r g' s' ⟨hle,h⟩;refine⟨hle1.trans hle,?_⟩;unfold iD
 rcases h with ⟨rfl,h1,rfl⟩ | ⟨rfl,h1,h2,rfl⟩ | ⟨rfl,h1,h2,rfl⟩
 ·rw[h1];exact⟨I,[edP bx u mb ms false,mp mb<|rs.map am,mp ms []],I⟩
 ·rw[h1,zg1 rfl,zg1 h2];exact⟨I,[edP bx u mb ms false,mp mb<|rs.map am,mp ms []],I⟩
 ·rw[h1,h2];exact⟨I,ni rs e.cell,(kU (fun _ _ h=>h.1) e.cell hall).mono fun _ _=>ay.mono hle,I⟩
theorem nH {α:Type}(L r:List α)(k:Nat):(L++r)[L.length+k]?=r[k]?:=by
 rw[zh3 oM,Nat.add_sub_cancel_left]
def aH (code:Int)(B:List Cl):Int×List Cl :=
 if code≠0 then (code,[]) else if (aq<|aa B).2≠0 then ((aq<|aa B).2,[]) else (0,aa B)
theorem Tryz.buildZ89 (w:World):(Instr.build 89 #[]).run Tryz.prog w = .ok (.agg #[.slice none 0 0,vb false]) w:=by
 simp[Instr.build,Instr.fill];rfl
theorem ak.nil (g:PH):ak g (.slice none 0 0) []:=⟨[],zb9 g _,trivial⟩
theorem nK (E:World)(g:PH)(s:Own)(v:Value)(l:List Cl)(hv:ak g v l)(hf:a8 l)(b:Bool)(hb:decide ((aq l).2=0)=b) :
  Ctr Tryz.prog E 73 #[.agg #[v]] g s (fun r g' s'=>r=vb b∧g=g'∧s=s'):=by
 subst hb;exact t8 E g s v l hv hf
def uB (code:Int)(D:List Cl)(r:Value)(g':PH):Prop:=∃ u p n c b,r = .tuple #[.agg #[u],.agg #[.slice p n c,vb b],vi code]∧ak g' u D
theorem tz (E:World)(g:PH)(s:Own)(v ev:Value)(l:List Cl)(e:Ed)(hv:ak g v l)(hf:a8 l)(he:EdR g ev e)(hr:(aq l).2=0)(fv:Value)(code:Int)(B:List Cl)(bk:Bool)(hg:dF ku e.kind=some fv)(hrun:nq fv e (aa l) code B bk)(hB:code=0→a8 B∧(B.map Cl.id).Nodup) :
  Ctr Tryz.prog E 43 #[.agg #[v],ev] g s (fun r g' s'=>s=s'∧Le g g'∧uB (aH code B).1 (aH code B).2 r g'):=by
 obtain ⟨z,hz⟩:=Tryz.mtyKinds;have he0:=he;obtain ⟨sv,pv,rfl,hsv,hpv⟩:=he;obtain ⟨sp,sc,rfl⟩:=za3 hsv;obtain ⟨pq,pc,rfl⟩:=za3 hpv;obtain ⟨p,c,rfl⟩:=hv.form;have hc:decide ((aq l).2=0)=true:=zf8 hr;have hnd:((aa l).map Cl.id).Nodup:=by
  rw[List.Nodup,zk5];exact (mq hr).asc.imp fun h=>by omega
 have hAf:=ba hf;refine zb1 (args:=[.agg #[.slice p l.length c],.agg #[vi e.kind,vi e.cell,vi e.dim,vi e.new,vi e.other,.slice sp e.sides.length sc,.slice pq e.pairs.length pc]]) func43 I ntmps43 (bE I)<|rZ (bW (bO I) fun b2=>?_);refine bW (bO I) fun b3=>bW (aL zl6) fun b4=>bW (aL zl1) fun b5=>aT I<|sQ<|dW [] [(1,2),(2,1),(0,0),(3,0),(4,2),(5,2),(6,2),(7,2),(8,2)] ze3 kR<|pU I (fA aJ I zT3 I)<|pK I (qL iT3 I<|cO 2 I I)<|SP.o I (SO.call call72 I<|jW E g _) dC (.inr iR) ?_;rintro _ g1 _ ⟨rfl,hle1,bq,rfl,hk⟩;refine oQ I (SQ.eq (v':=.tuple #[fv,vb true]) (SQ.lookupOk hz I I<|bo.known hk) (by rw[hg]; rfl)) dC (.inr ⟨by assumption,(by exact .refl _)⟩) ?_;refine yM I<|pU I (xT I I)<|pU I (xT I I)<|pU I (aS I)<|pU I (aS I)<|pN<|tN<|sQ<|sW I<|lU (SU.not I)<|lM I<|SL.gq (gT I I I dC) (qV 3 ar ag I I I) dC<|ze1 (gT I I I dC) (SO.call call73 I<|nK E g1 _ _ l (hv.mono hle1) hf true hc) dC ?_;rintro _ _ _ ⟨rfl,rfl,rfl⟩;refine lY I I I (SU.not I)<|yF I<|tZ<|cF I<|kP<|tN<|rZ<|lK (qV 3 ar ag I I I)<|lW (SO.call call74 I<|wv E g1 _ _ l (hv.mono hle1) hf hnd) ?_;rintro _ g2 _ ⟨hle2,bx,u,mb,ms,rs,rfl,hu,hO,rfl⟩;refine aT I<|sW I<|lM I<|lK (qV ((fI (aa l) rs).length+2+3) jB ft I (by exact (nH (fI (aa l) rs) _ 2).trans I) I) ?_;refine lW (SO.callV I I<|hrun E g2 _ bx mb ms u _ rs hu hO<|he0.mono<|hle1.trans hle2) ?_;rintro _ g3 _ ⟨hle3,rfl,hcase⟩;by_cases hc0:code=0
 ·obtain ⟨hBf,hBn⟩:=hB hc0;subst hc0;rw[zg1 rfl] at hcase;obtain ⟨rs',hall,rfl⟩:=hcase;have hcB:=ba hBf;have hout:aH 0 B=if (aq<|aa B).2≠0 then ((aq<|aa B).2,[]) else (0,aa B):=rfl
  rw[hout];refine aT I (rZ<|bW (aL zl6) fun b11=>?_);refine tZ (sQ<|sW I<|yE I<|tZ<|za1 I<|sQ<|cP (zk2 (l₁:=[pt b11<|.cells #[.slice none 0 0] 29 (0,0),edP bx u mb ms bk]))<|SC.freezeMap fun g4 hle4 hm4=>?_);refine rG<|lM I<|lW (SO.call call75 I<|uP E g4 _ bx mb ms u bk B rs' (hall.mono fun _ _=>ay.mono hle4) hBn hBf hm4 1 I) ?_;rintro _ g5 _ ⟨rfl,hle5,u5,rfl,hu5⟩;obtain ⟨p5,c5,rfl⟩:=hu5.form;refine oZ (sK 0 ag I I I I I sB)<|tZ<|rG<|lK (qV 0 ar ag I I I)<|lW (SO.call call24 I<|jX E g5 _ _ (aa B) hu5 hcB) ?_;rintro _ _ _ ⟨rfl,rfl,rfl⟩;refine lM I<|yX I<|yX I<|aT I<|sQ<|sW I<|lU (nQ I I)<|tZ<|iP I (fun h2=>?_) (fun h2=>?_)
  ·have he2:(if (aq<|aa B).2≠0 then ((aq<|aa B).2,[]) else ((0:Int),aa B))=((aq<|aa B).2,[]):=zg1 h2;rw[he2];exact rZ<|lU (za2 I buildE29)<|lU (za2 I buildZ89)<|lM I<|oZ (sK 4 ag I I I I I sB)<|oZ (sK 3 bD I I I I I sB)<|aT I<|rE<|tR<|ST.retCCT 4 3 s (.inl I) results43 I I I ar ag fw bD I I I I uR ⟨I,hle1.trans<|hle2.trans<|hle3.trans<|hle4.trans hle5,_,_,_,_,_,I,ak.nil _⟩
  ·have he2:(if (aq<|aa B).2≠0 then ((aq<|aa B).2,[]) else ((0:Int),aa B))=(0,aa B):=zf9 h2;rw[he2];refine kP<|tN<|sQ<|dW [4,5] [(0,1),(1,2),(2,1),(3,0),(4,0),(5,0),(6,2)] ze3 kR<|pK I (qV 0 ar ag I I I)<|yM I<|pK I (qV 0 ar ag I I I)<|SP.o I (SO.call call76 I<|zJ E g5 _ bx mb ms u _ bk (aa l) (aa B) (hu.mono<|hle3.trans<|hle4.trans hle5) hu5 hAf.1 hcB.1 1 2 I I) dC (.inr iR) ?_;rintro _ g6 _ ⟨rfl,hle6,iv,rfl,him⟩;obtain ⟨im,him1,him2⟩:=him;obtain ⟨p6,c6,rfl⟩:=za3 him1;refine SP.on I (sK 4 ag I I I I I sB) (.inl dC) ?_;rintro _ _ _ ⟨rfl,rfl⟩;refine SP.on I (sK 3 bD I I I I I sB) (.inl dC) ?_;rintro _ _ _ ⟨rfl,rfl⟩;exact pU I (aS I)<|pN<|tN<|rE<|ST.retCCT 4 3 s (.inl I) results43 I I I ar ag fw bD I I I I uR ⟨I,hle1.trans<|hle2.trans<|hle3.trans<|hle4.trans<|hle5.trans hle6,_,_,_,_,_,I,hu5.mono hle6⟩
 ·rw[zf9 hc0] at hcase;obtain ⟨h,rfl⟩:=hcase;have hout:aH code B=(code,[]):=zg1 hc0;rw[hout];refine SL.drop (zi9 _ _) (aT I<|rZ<|bW (aL zl6) fun b11=>?_);refine tZ<|sQ<|sW I<|yE I<|tZ<|iP I (fun h0=>?_) (fun h0=>?_)
  ·exact absurd h0 hc0
  ·refine kP<|tN<|sQ<|sW I<|lU (nQ I I)<|tZ<|iP I (fun h2=>?_) (fun h2=>?_)
   ·exact rZ<|lU (za2 I buildE29)<|lU (za2 I buildZ89)<|lM I<|oZ (sK 2 ag I I I I I sB)<|oZ (sK 1 bD I I I I I sB)<|aT I<|rE<|tR<|ST.retCCT 2 1 s (.inl I) results43 I I I ar ag fw bD I I I I uR ⟨I,hle1.trans<|hle2.trans hle3,_,_,_,_,_,I,ak.nil _⟩
   ·exact absurd hc0 h2
def qT (l:List Cl)(e:Ed)(code:Int)(D:List Cl):Prop:=∀ (E:World) (g:PH) (s:Own) (v ev:Value),ak g v l→EdR g ev e →
 Ctr Tryz.prog E 43 #[.agg #[v],ev] g s (fun r g' s'=>s=s'∧Le g g'∧uB code D r g')
def fK (e:Ed)(id:Int):Int:=if e.kind=4 then match e.pairs.find? (fun p=>decide (p.2=id)) with
  | some p=>p.1
  | none=>id
 else id
def bZ (m:List Pr)(e:Ed)(code:Int)(D:List Cl):Int×List Cl×List Pr :=
 if code≠0 then (code,[],[]) else (0,D,eF D<|m.map fun p=>(fK e p.1,fK e p.2))
def zo (o:Int×List Cl×List Pr)(r:Value)(g':PH):Prop:=∃ u pv,r = .tuple #[.agg #[u],pv,vi o.1]∧ak g' u o.2.1∧SlA ax g' pv o.2.2
theorem sZ {e:Ed}{id:Int}(h4:e.kind=4){k:Nat}(hk:k<e.pairs.length)(h:e.pairs[k].2=id)(hn:∀ j (hj:j<k),(e.pairs[j]'oM).2≠id):fK e id=e.pairs[k].1:=by
 have hf:e.pairs.find? (fun p=>decide (p.2=id))=some e.pairs[k]:=List.find?_eq_some_iff_getElem.2 ⟨by simpa using h,k,hk,rfl,fun j hj=>by simpa using hn j hj⟩;unfold fK;rw[zg1 h4,hf]
theorem rg {e:Ed}{id:Int}(hn:e.kind=4→∀ p∈e.pairs,p.2≠id):fK e id=id:=by
 unfold fK;split
 ·rename_i h4;have hf:e.pairs.find? (fun p=>decide (p.2=id))=none:=List.find?_eq_none.2 fun p hp=>by simpa using hn h4 p hp
  rw[hf]
 ·rfl
theorem wx (E:World)(g:PH)(s:Own)(b5:Nat)(sv pv:Value)(e:Ed)(id:Int)(q:Nat)(hq:s[q]?=some (pt b5<|.cells #[vi e.kind,vi e.cell,vi e.dim,vi e.new,vi e.other,sv,pv] 39 (0,0)))(hpv:SlA ax g pv e.pairs)(hpl:e.pairs.length<1099511627776) :
  cX Tryz.prog E (.func (.func 44) #[] #[pp b5 0]) [vi id] g s (fun r g' s'=>r=vi (fK e id)∧g=g'∧s=s'):=by
 obtain ⟨p,c,rfl⟩:=za3 hpv;refine cX.mk (args:=[_]) (cap:=[pp b5 0]) call44<|zb1 (args:=[vi id,pp b5 0]) func44 I ntmps44 (bE I)<|rZ<|aT I<|sQ<|rZ<|lU (fA aJ I iW I)<|lK (qL (v:=.slice p e.pairs.length c) jr I<|cO q hq I)<|lU (eN cC I)<|lM I<|tZ<|bK<|SC.loop (ι:=Nat) (fun k=>[(0,vi id),(1,pp b5 0),(7,.slice p e.pairs.length c),(8,vi e.pairs.length),(9,vi k)]) (fun _=>g) (fun _=>s)
  (fun k=>k≤e.pairs.length∧(e.kind=4→∀ j (hj:j<k) (hl:j<e.pairs.length),e.pairs[j].2≠id)) (fun k=>e.pairs.length - k) 0 sB rfl rfl ⟨zf6 _,fun _ j hj=>absurd hj oM⟩ ?_
 rintro k ⟨hk,hno⟩;try dsimp only at hk hno ⊢
 refine rZ<|yL I<|tZ<|sQ<|iP I (fun hlt=>?_) (fun hlt=>?_)
 ·have hkl:k<e.pairs.length:=oM;have hb1:=za5 hpv oM;have hgk:e.pairs[((k:Nat):Int).toNat]?=some e.pairs[k]:=gE hkl;have hfound:=fun h4 h=>sZ (e:=e) (id:=id) h4 hkl h (fun j hj=>hno h4 j hj oM);have hsucc:(e.kind=4→e.pairs[k].2≠id)→e.kind=4→∀ j (hj:j<k+1) (hl:j<e.pairs.length),e.pairs[j].2≠id:=fun h h4 j hj hl=>by
   by_cases hjk:j=k
   ·subst hjk; exact h h4
   ·exact hno h4 j oM hl
  generalize e.pairs[k]=x at *;obtain ⟨x1,x2⟩:=x;dsimp only at hfound hsucc;by_cases h4:e.kind=4
  ·refine kP (tN<|sQ<|bK<|rZ<|lU (iA cC bM I I hb1 oM sL)<|lK (eA kI bM I (za6 hpv) hgk)<|bW (aL zl5) fun b5=>?_);refine oZ (sK 0 bM I I I I I sB)<|tZ<|rZ<|lU (fA aJ I zT3 I)<|lK (qL (v:=vi e.kind) iT3 I<|cO (q+1) hq I)<|lU (SU.eq (v':=vb true) (eQ I I)<|ze2 vb<|zf8 h4)<|lM I<|lY I I I (iB cN zT3 I I dC dC)<|SL.gq (gT I I I dC) (qL (v:=vi x2) iT3 I<|cO 0 I I) dC<|yC I<|lY I I I (eQ I I)<|yP I<|tZ<|iP I (fun hx=>?_) (fun hx=>?_)
   ·exact rZ<|lU (iB cN zT3 I I dC dC)<|lK (qL (v:=vi x1) iT3 I<|cO 0 I I)<|aT I<|rE<|bR<|tR<|tR<|bR<|tR<|dR (s':=s) uR<|za7 (.inl I) results44 I ⟨by rw[hfound h4 hx],I,I⟩
   ·exact kP<|bN<|tN<|rG<|yD I<|lM I<|nL<|dR (s':=s) uR<|ST.again (k+1) sB I I ⟨oM,hsucc fun _=>hx⟩ oM
  ·refine kP (tN<|sQ<|bK<|rZ<|lU (iA cC bM I I hb1 oM sL)<|lK (eA kI bM I (za6 hpv) hgk)<|bW (aL zl5) fun b5=>?_);exact oZ (sK 0 bM I I I I I sB)<|tZ<|rZ<|lU (fA aJ I zT3 I)<|lK (qL (v:=vi e.kind) iT3 I<|cO (q+1) hq I)<|lU (SU.eq (v':=vb false) (eQ I I)<|ze2 vb<|zf7 h4)<|lM I<|yA I<|yA I<|yA I<|yA I<|yF I<|tZ<|cF I<|kP<|bN<|tN<|rG<|yD I<|lM I<|nL<|dR (s':=s) uR<|ST.again (k+1) sB I I ⟨oM,hsucc fun h=>absurd h h4⟩ oM
 ·refine xI (tX (tX (bX (tN (sW I (aT I (rE ?_)))))));exact za7 (.inl I) results44 I ⟨by
   rw[rg fun h4 x hx=>?_];obtain ⟨j,hj,rfl⟩:=zc7 hx;exact hno h4 j oM hj,I,I⟩
theorem gG (E:World)(g:PH)(s:Own)(v mv ev:Value)(l:List Cl)(m:List Pr)(e:Ed)(code:Int)(D:List Cl)(hv:ak g v l)(hm:SlA ax g mv m)(he:EdR g ev e)(hml:m.length<499999999999)(hpl:e.pairs.length<1099511627776)(ha:qT l e code D)(hD:code=0→a8 D∧D.length≤100000) :
  Ctr Tryz.prog E 20 #[.agg #[v],mv,ev] g s (fun r g' s'=>s=s'∧Le g g'∧zo (bZ m e code D) r g'):=by
 have he0:=he;obtain ⟨sv,pv,rfl,hsv,hpv⟩:=he;obtain ⟨sp,sc,rfl⟩:=za3 hsv;obtain ⟨pq,pc,rfl⟩:=za3 hpv;obtain ⟨p,c,rfl⟩:=hv.form;obtain ⟨q,d,rfl⟩:=za3 hm;refine zb1 (args:=[.agg #[.slice p l.length c],.slice q m.length d,.agg #[vi e.kind,vi e.cell,vi e.dim,vi e.new,vi e.other,.slice sp e.sides.length sc,.slice pq e.pairs.length pc]]) func20 I ntmps20 (bE I)<|rZ (bW (bO I) fun b3=>?_);refine bW (bO I) fun b5=>bW (aL zl6) fun b6=>lA I<|aT I<|rZ<|lK (qV 2 ar ag I I I)<|lK (qV 1 jB ft I I I)<|lW (SO.call call43 I<|ha E g _ _ _ hv he0) ?_;rintro _ g1 _ ⟨rfl,hle1,u1,p1,n1,c1,k1,rfl,hu1⟩;obtain ⟨pu,cu,rfl⟩:=hu1.form;refine lM I (yX I<|yX I<|yX I<|bW (aL zl6) fun b9=>?_);refine bW (aL zl1) fun b10=>oZ (sK 1 ag I I I I I sB)<|oZ (sK 0 bD I I I I I sB)<|aT I<|sQ<|sW I<|lU (nQ I I)<|tZ<|iP I (fun hc0=>?_) (fun hc0=>?_)
 ·have ho:bZ m e code D=(code,[],[]):=zg1 hc0;rw[ho];exact rZ<|lU (za2 I buildE29)<|lM I<|oZ (sK 2 ag I I I I I sB)<|lA I<|aT I<|rE<|tR<|ST.retCTT 2 s (.inl I) results20 I I I ar ag I I uR ⟨I,hle1,_,_,I,ak.nil _,zb9 _ _⟩
 ·have hc:code=0:=Decidable.not_not.1 hc0;subst hc;obtain ⟨hDf,hDl⟩:=hD rfl;have ho:bZ m e 0 D=(0,D,eF D<|m.map fun p=>(fK e p.1,fK e p.2)):=rfl;rw[ho];have hm1:=za4 hm hle1;have hpv1:=za4 hpv hle1;refine kP<|tN<|rZ<|lU (SU.mkFunc I)<|aT I<|rZ<|aT I<|sQ<|sW I<|lU (eN cC I)<|lM I<|tZ<|bK<|zb5 44 2<|SC.loop (ι:=Nat×Value) (fun i=>[(6,pp b6 0),(9,pp b9 0),(12,.func (.func 44) #[] #[pp b5 0]),(13,i.2),(28,.slice q m.length d),(29,vi m.length),(30,vi i.1)]) (fun _=>g1)
   (fun i=>rowA ax 44 i.2 ((m.take i.1).map fun p=>(fK e p.1,fK e p.2))::pt b10 (.cells #[.slice p1 n1 c1,vb k1] 89 (0,0))::pt b9 (.cells #[.slice pu D.length cu] 29 (0,0))::pt b6 (.cells #[.slice none 0 0] 29 (0,0))::pt b5 (.cells #[vi e.kind,vi e.cell,vi e.dim,vi e.new,vi e.other,.slice sp e.sides.length sc,.slice pq e.pairs.length pc] 39 (0,0))::pt b3 (.cells #[.slice p l.length c] 29 (0,0))::s)
   (fun i=>i.1≤m.length) (fun i=>m.length - i.1) (0,.slice none 0 0) sB rfl rfl (zf6 _) ?_
  rintro ⟨k,lv⟩ hk;dsimp only at hk ⊢;refine rZ<|yL I<|tZ<|sQ<|iP I (fun hlt=>?_) (fun hlt=>?_)
  ·have hkl:k<m.length:=oM;have hb1:=za5 hm1 oM;have hgk:m[((k:Nat):Int).toNat]?=some m[k]:=gE hkl;have htk:(m.take<|k+1).map (fun p=>(fK e p.1,fK e p.2))=(m.take k).map (fun p=>(fK e p.1,fK e p.2))++[(fK e m[k].1,fK e m[k].2)]:=by rw[tS hkl,zg5]; rfl
   have hll:((m.take k).map fun p=>(fK e p.1,fK e p.2)).length=k:=by rw[ze6,ze4]; omega
   generalize m[k]=x at *;obtain ⟨x1,x2⟩:=x;dsimp only at htk;refine kP (tN<|sQ<|bK<|rZ<|lU (iA cC bM I I hb1 oM sL)<|lK (eA kI bM I (za6 hm1) hgk)<|bW (aL zl5) fun b15=>?_);refine oZ (sK 0 bM I I I I I sB)<|tZ<|dW [11] [(0,2),(1,2),(2,2),(3,1),(5,2),(6,2),(7,1),(4,0),(8,0),(9,2),(10,0),(11,0),(12,2)] ze3 kR<|yM I<|yM I<|pU I (iB cN zT3 I I dC dC)<|pK I (qL (v:=vi x1) iT3 I<|cO 0 I I)<|yM I<|pU I (iB cN zT3 I I dC dC)<|pK I (qL (v:=vi x2) iT3 I<|cO 0 I I)<|SP.o I (SO.callV I I<|wx E g1 _ b5 _ _ e x1 5 I hpv1 hpl) dC (.inr iR) ?_;rintro _ _ _ ⟨rfl,rfl,rfl⟩;refine SP.o I (SO.callV I I<|wx E g1 _ b5 _ _ e x2 5 I hpv1 hpl) dC (.inr iR) ?_;rintro _ _ _ ⟨rfl,rfl,rfl⟩;refine pU I (za2 I<|build44 _ _)<|SP.o I (bS sty31 I I I (ab sB) dC) dC (.inr iR) ?_;rintro _ _ _ ⟨b44,rfl,rfl,rfl⟩;refine SP.o I (aP (e:=ax) 1 (fK e x1,fK e x2) sty31 I I I I I oM oM) dC (.inl dC) ?_;rintro lv' _ _ ⟨rfl,rfl⟩;exact pU I (aS I)<|pN<|bN<|tN<|rG<|yD I<|lM I<|nL<|dR (.cons _<|.refl _)<|ST.again (k+1,lv') sB I (by dsimp only; rw[htk]; rfl) (by dsimp only; omega) (by dsimp only; omega)
  ·have hkk:m.take k=m:=tL oM;rw[hkk];refine xI (tX<|tX<|bX<|tN<|sQ<|fS fun g2 hle2 hs2=>?_);refine dW [4] [(0,1),(1,1),(2,2),(3,0),(4,0),(5,2),(6,2)] ze3 kR<|pK I (qV 1 ar ag I I I)<|pK I (qV 1 ar ag I I I)<|yM I<|SP.o I (SO.call call15 I<|jS E g2 _ _ _ D _ (hu1.mono hle2) hDf hDl hs2 (by rw[ze6]; omega)) dC (.inr iR) ?_;rintro v50 g3 _ ⟨rfl,hle3,hx3⟩;refine SP.on I (sK 2 ag I I I I I sB) (.inl dC) ?_;rintro _ _ _ ⟨rfl,rfl⟩;exact pU I (aS I)<|pU I (aS I)<|pN<|tN<|rE<|ST.retCTT 2 s (.inl I) results20 I I I ar ag I I uR ⟨I,hle1.trans<|hle2.trans hle3,_,_,I,hu1.mono<|hle2.trans hle3,hx3⟩
def CL:List Pr:=[(1,4),(2,6),(5,7)]
def Bf:Ed:=⟨2,7,0,0,0,[],[]⟩
def yv:Ed:=⟨1,8,0,0,0,[],[]⟩
def AZ:List Cl:=aa (nj jZ 7)
def Bi:List Cl:=aa (dK jZ ⟨8,0,[]⟩)
theorem kZ:aa jZ=jZ:=by kernel_rfl
theorem Bn:kB jZ [(1,4),(1,5),(2,6)]=[(1,4),(2,6)]:=by kernel_rfl
theorem xa:eF jZ [(3,5)]=[(3,5),(1,4),(6,7)]:=by kernel_rfl
theorem Dk:aH (iD jZ Bf) (nj jZ 7)=(0,AZ):=by kernel_rfl
theorem DM:aH (fl jZ yv) (dK jZ ⟨8,0,[]⟩)=(0,Bi):=by kernel_rfl
theorem zX:bZ CL Bf 0 AZ=(0,AZ,[(1,4),(2,6)]):=by kernel_rfl
theorem AM:bZ CL yv 0 Bi=(0,Bi,CL):=by kernel_rfl
theorem Dl:((AZ.length:Nat):Int)=6:=by kernel_rfl
theorem BH:a8 AZ:=kS kR (by decide +kernel)
theorem Cp:a8 Bi:=kS kR (by decide +kernel)
theorem Dm:AZ.length≤100000:=by decide +kernel
theorem DN:Bi.length≤100000:=by decide +kernel
theorem yQ:(aq jZ).2=0:=by rw[zA]
theorem zY:qT jZ Bf 0 AZ:=fun E g s v ev hv he=>by
 have h:=tz E g s v ev jZ Bf hv kM he yQ _ _ _ true rfl (p4 (aa jZ) (ba kM) Bf) (fun _=>by rw[kZ]; exact⟨kS (by decide +kernel) (by decide +kernel),by decide +kernel⟩);rw[kZ,show Bf.cell=7 from rfl,Dk] at h;exact h
theorem AN:qT jZ yv 0 Bi:=fun E g s v ev hv he=>by
 have h:=tz E g s v ev jZ yv hv kM he yQ _ _ _ false rfl (qI (aa jZ) yv dC) (fun _=>by rw[kZ]; exact⟨kS (by decide +kernel) (by decide +kernel),by decide +kernel⟩);rw[kZ,show (⟨yv.cell,yv.dim,yv.sides⟩:Cl)=⟨8,0,[]⟩ from rfl,DM] at h;exact h
theorem Tryz.build39 (a b:Int)(w:World):(Instr.build 39 #[(0,vi a),(1,vi b)]).run Tryz.prog w = .ok (.agg #[vi a,vi b,vi 0,vi 0,vi 0,.slice none 0 0,.slice none 0 0]) w:=by
 have h1:(vi a).cells = #[vi a]:=rfl;have h2:(vi b).cells = #[vi b]:=rfl;simp[Instr.build,Instr.fill,h1,h2];rfl
theorem Eb:EB:=by
 intro E g s;refine zb1 (args:=[]) func9 I ntmps9 (bE I)<|rZ<|aT I<|rZ<|lW (SO.call call28 I<|o3 E g _) ?_;rintro _ g1 _ ⟨rfl,hle1,u1,rfl,hv1⟩;obtain ⟨q1,d1,rfl⟩:=hv1.form;refine bW (aL zl6) fun b1=>oZ (sK 0 ag I I I I I sB)<|tZ<|rZ<|lU (za2 I<|build44 _ _)<|lU (za2 I<|build44 _ _)<|lU (za2 I<|build44 _ _)<|lW (bS sty31 I I I (ab sB) dC) ?_;rintro _ _ _ ⟨b16,rfl,rfl,rfl⟩;refine zb4 fun g2 hle2 hb2=>?_;have hm2:SlA ax g2 (.slice (some ⟨b16,0,none⟩) 3 3) CL:=SlA.lit hb2 rfl rfl;have hv2:=hv1.mono hle2;refine aT I<|rZ<|lK (qV 0 ar ag I I I)<|lU (za2 I<|build44 _ _)<|lU (za2 I<|build44 _ _)<|lU (za2 I<|build44 _ _)<|lW (bS sty31 I I I (ab sB) dC) ?_;rintro _ _ _ ⟨b21,rfl,rfl,rfl⟩;refine zb4 fun g3 hle3 hb3=>?_;have hk3:SlA ax g3 (.slice (some ⟨b21,0,none⟩) 3 3) [(1,4),(1,5),(2,6)]:=SlA.lit hb3 rfl rfl;have hv3:=hv2.mono hle3;refine lW (SO.call call13 I<|rU E g3 _ _ _ jZ _ hv3 kM hk3 dC) ?_;rintro v22 g4 _ ⟨rfl,hle4,hk4⟩;rw[Bn] at hk4;have hv4:=hv3.mono hle4;refine aT I<|rZ<|lK (qV 0 ar ag I I I)<|lU (za2 I<|build44 _ _)<|lW (bS sty31 I I I (ab ⟨I,trivial⟩) dC) ?_;rintro _ _ _ ⟨b25,rfl,rfl,rfl⟩;refine zb4 fun g5 hle5 hb5=>?_;have hk5:SlA ax g5 (.slice (some ⟨b25,0,none⟩) 1 1) [(3,5)]:=SlA.lit hb5 rfl rfl;have hv5:=hv4.mono hle5;refine lW (SO.call call15 I<|jS E g5 _ _ _ jZ _ hv5 kM dC hk5 dC) ?_;rintro v26 g6 _ ⟨rfl,hle6,hx6⟩;rw[xa] at hx6;have hv6:=hv5.mono hle6;have hm6:=za4 hm2<|hle3.trans<|hle4.trans<|hle5.trans hle6;refine aT I<|rZ<|lK (qV 0 ar ag I I I)<|lM I<|lU (za2 I<|build39 _ _)<|lW (SO.call call20 I<|gG E g6 _ _ _ _ jZ CL Bf 0 AZ hv6 hm6 ⟨_,_,I,zb9 _ _,zb9 _ _⟩ dC dC zY<|fun _=>⟨BH,Dm⟩) ?_;rintro _ g7 _ ⟨rfl,hle7,hr7⟩;rw[zX] at hr7;obtain ⟨u7,pv7,rfl,hu7,hp7⟩:=hr7;obtain ⟨q7,d7,rfl⟩:=hu7.form;have hv7:=hv6.mono hle7;have hm7:=za4 hm6 hle7;refine lM I (yX I<|yX I<|yX I<|bW (aL zl6) fun b5=>?_);refine oZ (sK 0 ag I I I I I sB)<|lA I<|aT I<|rZ<|lK (qV 1 ar ag I I I)<|lM I<|lU (za2 I<|build39 _ _)<|lW (SO.call call20 I<|gG E g7 _ _ _ _ jZ CL yv 0 Bi hv7 hm7 ⟨_,_,I,zb9 _ _,zb9 _ _⟩ dC dC AN<|fun _=>⟨Cp,DN⟩) ?_;rintro _ g8 _ ⟨rfl,hle8,hr8⟩;rw[AM] at hr8;obtain ⟨u8,pv8,rfl,hu8,hp8⟩:=hr8;obtain ⟨q8,d8,rfl⟩:=hu8.form;have hm8:=za4 hm7 hle8;have hle18:=hle1.trans<|hle2.trans<|hle3.trans<|hle4.trans<|hle5.trans<|hle6.trans<|hle7.trans hle8;refine lM I (yX I<|yX I<|yX I<|bW (aL zl6) fun b8=>?_);refine oZ (sK 0 ag I I I I I sB)<|lA I<|aT I<|sW I<|lU (za2 I<|build44 _ _)<|lU (za2 I<|build44 _ _)<|lW (bS sty31 I I I (ab sB) dC) ?_;rintro _ _ _ ⟨b46,rfl,rfl,rfl⟩;refine zb4 fun g9 hle9 hb9=>?_;have hk9:SlA ax g9 (.slice (some ⟨b46,0,none⟩) 2 2) [(1,4),(2,6)]:=SlA.lit hb9 rfl rfl;have hle49:=hle5.trans<|hle6.trans<|hle7.trans<|hle8.trans hle9;refine lW (SO.call call12 I<|fo E g9 _ _ _ _ (za4 hk4 hle49) hk9 dC) ?_;rintro _ _ _ ⟨rfl,rfl,rfl⟩;refine lM I<|yC I<|lY I I I (za2 I<|build44 _ _)<|lY I I I (za2 I<|build44 _ _)<|lY I I I (za2 I<|build44 _ _)<|ze1 (gT I I I dC) (bS sty31 I I I (ab sB) dC) dC ?_;rintro _ _ _ ⟨b53,rfl,rfl,rfl⟩;refine zb4 fun gA hleA hbA=>?_;have hkA:SlA ax gA (.slice (some ⟨b53,0,none⟩) 3 3) [(3,5),(1,4),(6,7)]:=SlA.lit hbA rfl rfl;refine ze1 (gT I I I dC) (SO.call call12 I<|fo E gA _ _ _ _ (za4 hx6<|hle7.trans<|hle8.trans<|hle9.trans hleA) hkA dC) dC ?_;rintro _ _ _ ⟨rfl,rfl,rfl⟩;refine yP I<|aT I<|sW I<|lM I<|yC I<|lY I I I (eQ I I)<|yP I<|lM I<|lY I I I (fA du I di I)<|SL.gq (gT I I I dC) (qL dU I<|cO 1 I I) dC<|lY I I I (eN aF I)<|lY I I I (SU.eq (v':=vb true) (eQ I I)<|ze2 vb<|zf8 Dl)<|yP I<|lM I<|yC I<|lY I I I (za2 I<|build44 _ _)<|lY I I I (za2 I<|build44 _ _)<|ze1 (gT I I I dC) (bS sty31 I I I (ab sB) dC) dC ?_;rintro _ _ _ ⟨b71,rfl,rfl,rfl⟩;refine zb4 fun gB hleB hbB=>?_;have hkB:SlA ax gB (.slice (some ⟨b71,0,none⟩) 2 2) [(1,4),(2,6)]:=SlA.lit hbB rfl rfl;have hle8B:=hle9.trans<|hleA.trans hleB;refine ze1 (gT I I I dC) (SO.call call12 I<|fo E gB _ _ _ _ (za4 hp7<|hle8.trans hle8B) hkB dC) dC ?_;rintro _ _ _ ⟨rfl,rfl,rfl⟩;refine yP I<|lM I<|yC I<|lY I I I (eQ I I)<|yP I<|lM I<|yC I<|yC I<|ze1 (gT I I I dC) (SO.call call12 I<|fo E gB _ _ _ _ (za4 hp8 hle8B) (za4 hm8 hle8B) dC) dC ?_;rintro _ _ _ ⟨rfl,rfl,rfl⟩;exact yP I<|aT I<|rE<|dR (s':=s) uR<|za7 (.inl I) results9 I ⟨I,I,hle18.trans hle8B⟩
open Go.ChangeShapes Go.WideShapes Go.ChangeAt Go.RowKit
set_option maxRecDepth 100000
section
variable {H:Type}{enc:TypeId×Value→H}{W:World}{base:Nat}{spare:Nat→Bool}{hd:Bool}
theorem Tryz.cells5:Tryz.prog.cellsOf 5=1:=by kernel_rfl
theorem Tryz.cells25:Tryz.prog.cellsOf 25=4:=by kernel_rfl
theorem EI {n:Int}(h:(Lit.int .u8 n).wf=true):∃ k:Nat,n=(k:Int)∧k<256:=by
 have h2:IntKind.u8.min≤n∧n≤IntKind.u8.max:=by simpa [Lit.wf] using h
 have e1:IntKind.u8.min=0:=by decide
 have e2:IntKind.u8.max=255:=by decide
 exact⟨n.toNat,oM,oM⟩
theorem uw {fuel:Nat}{v:Value}{x:DataW H×List MemPlace}(h:DataW.trod enc Tryz.prog W base spare hd fuel 5 [v]=some x):∃ k:Nat,v = .int .u8 (k:Int)∧k<256:=by
 obtain ⟨a,e,_,w⟩:=DataW.trod_int uT5 h;obtain ⟨k,rfl,hk⟩:=EI w;simp at e;exact⟨k,e,hk⟩
theorem Cj {fuel:Nat}{v:Value}{x:DataW H×List MemPlace}(h:DataW.trod enc Tryz.prog W base spare hd fuel 23 [v]=some x):∃ l:List Nat,SlA kJ (vT W) v (l.map fun k:Nat=>(k:Int))∧∀ k∈l,k<256:=by
 rcases Go.Deep.open_slice1 underlying23 cells5 h with ⟨hcs,_⟩ | ⟨a,len,cap,m,n,V,D,Pl,hcs,_,hl,_,hmm,_,hx⟩
 ·simp at hcs;subst hcs;exact⟨[],zb9 _ _,by simp⟩
 ·simp at hcs;subst hcs;have hlm:len≤m:=by rw[hmm]; split <;> omega
  obtain ⟨f,hf⟩:=Go.Deep.choose_lt (α:=Nat) (n:=len) (p:=fun i k=>V i = .int .u8 (k:Int)∧k<256) fun i hi=>uw (hx i oM).2;refine⟨(List.range len).map f,?_,fun k hk=>?_⟩
  ·show Sl (vT W) 1 _ (((List.range len).map f).map fun k:Nat=>(k:Int)).length ((((List.range len).map f).map fun k:Nat=>(k:Int)).flatMap kJ.enc);have he:(((List.range len).map f).map fun k:Nat=>(k:Int)).flatMap kJ.enc=(List.range len).map fun i=>V i:=by
    have:∀ l:List Nat,(∀ i∈l,i<len)→((l.map f).map fun k:Nat=>(k:Int)).flatMap kJ.enc=l.map fun i=>V i:=by
     intro l;induction l with
     | nil=>intro _; rfl
     | cons y t ih =>
      intro hy;rw[zg4,zg4,zh5,ih fun i hi=>hy i (by simp[hi]),zg4,(hf y<|hy y<|by simp).1];rfl
    exact this _ fun i hi=>List.mem_range.1 hi
   rw[he,ze6,ze6,List.length_range];refine CB hl (by simp) fun i y hi=>?_;rw[zh9] at hi;cases hc:(List.range len)[i]? with
   | none=>rw[hc] at hi; cases hi
   | some z =>
    rw[hc] at hi;cases hi;obtain ⟨h1,h2⟩:=zf5.1 hc;simp at h1 h2;subst h2;exact (hx i oM).1
  ·obtain ⟨i,hi,rfl⟩:=zf2.1 hk;exact (hf i<|List.mem_range.1 hi).2
theorem zQ {r:Reach}{b0:Nat}{v:Value}{d:DataW H}{p:List MemPlace}(hv:Value.okWide Tryz.prog W r b0 25 v)(h:DataW.Trod enc Tryz.prog W base spare hd 25 v d p) :
  ∃ (sp bs:Nat) (vL vG:Value) (L:List Int) (G:List Nat),v = .agg #[.int .u8 (sp:Int),vL,vG,.int .u8 (bs:Int)]∧dJ (vT W) vL L∧SlA kJ (vT W) vG (G.map fun k:Nat=>(k:Int))∧sp<256∧bs<256∧∀ x∈G,x<256:=by
 obtain ⟨c0,c1,c2,c3,y0,y1,y2,y3,n,rfl,_,_,h0,h1,h2,h3⟩:=Go.Joins.open_agg4 yq kR cells25 hv h;obtain ⟨sp,rfl,hsp⟩:=uw h0;obtain ⟨bs,rfl,hbs⟩:=uw h3;obtain ⟨L,rL,-,hL⟩:=y5 h1;obtain ⟨G,hG,hGb⟩:=Cj h2;exact⟨sp,bs,c1,c2,L,G,I,hL,hG,hsp,hbs,hGb⟩
theorem B4 {v:Value}{d:DataW H}{p:List MemPlace}(h:DataW.Trod enc Tryz.prog W base spare hd 22 v d p)(hv:v.cells = #[v]):∃ l:List Int,dJ (vT W) v l:=by
 obtain ⟨fuel,hf⟩:=h;rw[hv] at hf;obtain ⟨l,r,-,hl⟩:=y5 hf;exact⟨l,hl⟩
end
theorem dV (E:World)(g:PH)(s:Own)(c n:Int)(h0 : -9223372036854775808≤n)(h1:n<9223372036854775808) :
  Ctr Tryz.prog E 119 #[vi c,vi n] g s (fun r g' s'=>r = .agg (dw.enc (c,n)).toArray∧s=s'∧Le g g'):=by
 refine zb1 (args:=[vi c,vi n]) func119 I ntmps119 (bE I)<|rZ (bW (aL zeroValue156) fun b4=>?_);refine tZ<|sW I<|lM I<|lW (SO.call call147 I<|tU E g _ n h0 h1) ?_;rintro _ g1 _ ⟨rfl,rfl,hle1⟩;exact lU (za2 I<|build156 _ _ _)<|oZ (sK 0 sizeOf156 I I I I I sB)<|tZ<|rE<|ST.retCD 0 s (.inl I) results119 I isAgg156 sizeOf156 I I uR ⟨I,I,hle1⟩
theorem cU (E:World)(g:PH)(s:Own)(v:Value)(l:List Cl)(id:Int)(hv:ak g v l)(hf:a8 l) :
  Ctr Tryz.prog E 116 #[.agg #[v],vi id] g s (fun r g' s'=>r=vb (findC l id).isSome∧s=s'∧Le g g'):=by
 refine zb1 (args:=[.agg #[v],vi id]) func116 I ntmps116 (bE I)<|rZ (bW (bO I) fun b2=>?_);refine aT I<|rZ<|lK (qV 0 ar ag I I I)<|lM I<|lW (SO.call call68 I<|aR E g _ v l id hv hf) ?_;rintro _ g1 _ ⟨rfl,hle1,⟨yi,yd,yp,yn,yc⟩,rfl,hc⟩;refine lM I (yX I<|yX I<|bW (aL zl3) fun b5=>?_);exact oZ (sK 0 au I I I I I sB)<|aT I<|sW I<|aT I<|rE<|dR (s':=s) uR<|za7 (.inl I) results116 I ⟨I,I,hle1⟩
theorem nE {α β:Type}(f:α→β){l:List α}{k:Nat}(h:k<l.length):(l.take<|k+1).map f=(l.take k).map f++[f l[k]]:=by
 rw[tS h,zg5];rfl
theorem fq (E:World)(g:PH)(s:Own)(v:Value)(l:List Cl)(hv:ak g v l)(hf:a8 l) :
  Ctr Tryz.prog E 117 #[.agg #[v]] g s (fun r g' s'=>s=s'∧Le g g'∧∃ iv,r = .agg #[iv]∧Ims g' iv ((aW l).map e6)):=by
 have hft:=(bL hf).1;refine zb1 (args:=[.agg #[v]]) func117 I ntmps117 (bE I)<|rZ (bW (bO I) fun b1=>?_);refine bW (aL zl2) fun b2=>tZ (rZ<|bW (aL zl2) fun b3=>?_);refine tZ<|rZ<|lK (qV 2 ar ag I I I)<|lW (SO.call call42 I<|dy E g _ v l hv hf) ?_;rintro v7 g1 _ ⟨rfl,hle1,hc⟩;obtain ⟨rs,hrs,hall⟩:=hc;obtain ⟨p,c,rfl⟩:=za3 hrs;refine aT I<|sQ<|rZ<|aT I<|bK ?_;generalize aW l=T at *;have hrl:=hall.length;refine zb5 162 2<|SC.loop (ι:=Nat×PH×Value×List Im) (fun i=>[(2,pp b2 0),(3,pp b3 0),(4,.slice p rs.length c),(5,vi i.1)]) (fun i=>i.2.1)
  (fun i=>rowA jp 162 i.2.2.1 i.2.2.2::pt b3 (.cells #[i.2.2.1] 87 (0,0))::pt b2 (.cells #[.slice none 0 0] 87 (0,0))::pt b1 (.cells #[v] 29 (0,0))::s)
  (fun i=>i.1≤rs.length∧Le g1 i.2.1∧az (ImR i.2.1) ((T.take i.1).map e6) i.2.2.2) (fun i=>rs.length - i.1) (0,g1,.slice none 0 0,[])
  sB rfl rfl ⟨zf6 _,zb8 _,by simp[az]⟩ ?_
 rintro ⟨k,g2,ov,acc⟩ ⟨hk,hle2,hacc⟩;dsimp only at hk hle2 hacc ⊢;have hal:=hacc.length;rw[ze6,ze4] at hal;refine sQ<|sW I<|lM I<|lU (eN aF I)<|yL I<|tZ<|iP I (fun hlt=>?_) (fun hlt=>?_)
 ·have hkr:k<rs.length:=oM;have hkl:k<T.length:=oM;have hb1:=za5 hrs oM;have hcr:=hall.get (gE hkl) (gE hkr);have hgx:rs[((k:Nat):Int).toNat]?=some rs[k]:=gE hkr;have htk:=nE e6 hkl;generalize rs[k]=x at *;generalize T[k]=cx at *;obtain ⟨xi,xd,xp,xn,xc⟩:=x;obtain ⟨e1,e2,-⟩:=hcr;dsimp only at e1 e2;subst e1 e2;refine kP (tN (sQ (bK ?_)));refine dW [16,18] [(0,2),(1,1),(2,2),(3,2),(4,2),(5,2),(6,1),(7,2),(8,2),(9,2),(10,2),(11,1),(12,0),(13,0),(14,2),(15,0),(16,0),(17,2),(18,0)] ze3 kR<|pU I (fA uh I oV I) (pK I (qL isAgg85 I (cO 1 I I)) (yM I (yM I (pU I (iA aF au I I hb1 oM (show (k:Int)<((rs.length:Nat):Int) by omega)) ?_))));refine pU I (fC aw I zT3 I hb1) (pK I (aZ (e:=encCell) (o:=0) iT3 I (za6 (za4 hrs hle2)) hgx I) (yM I (yM I (pU I (iA aF au I I hb1 oM (show (k:Int)<((rs.length:Nat):Int) by omega)) ?_))));refine pU I (fC aw I zT3 I hb1) (pK I (aZ (e:=encCell) (o:=0) iT3 I (za6 (za4 hrs hle2)) hgx I) (SP.o I (SO.call call119 I (dV E g2 _ cx.id 1 dC dC)) dC (.inr iR) ?_));rintro _ g3 _ ⟨rfl,rfl,hle3⟩;refine SP.o I (bS sty151 I I I (ab ⟨I,trivial⟩) dC) dC (.inr iR) ?_;rintro _ _ _ ⟨b27,rfl,rfl,rfl⟩;refine SP.freeze fun g4 hle4 hb4=>?_;have hch:SlA dw g4 (.slice (some ⟨b27,0,none⟩) 1 1) [(cx.id,1)]:=SlA.lit hb4 rfl rfl;have hle24:=hle3.trans hle4;refine pU I (za2 I (build162 _ _ _ _)) (SP.o I (bS sty85 I I I (ab sB) dC) dC (.inr iR) ?_);rintro _ _ _ ⟨b29,rfl,rfl,rfl⟩;refine SP.o I (aP (e:=jp) 0 ⟨cx.id,⟨some ⟨b27,0,none⟩,1,1⟩⟩ sty85 I I I I I oM oM) dC (.inl dC) ?_;rintro ov' _ _ ⟨rfl,rfl⟩;refine zd2 fun ⟨w0,hw0⟩=>?_;obtain ⟨q',d',rfl⟩:=aj (e:=jp) (l:=acc++[⟨cx.id,⟨some ⟨b27,0,none⟩,1,1⟩⟩]) (i:=0) hw0 rfl;clear hw0 w0;refine pU I (fA uh I oV I) (SP.on I (sK 1 oV I I I I I sB) (.inl dC) ?_);rintro _ _ _ ⟨rfl,rfl⟩;refine pN (bN (tN (rG (lM I (yD I (lA I (nL ?_)))))));exact ST.again (k+1,g4,_,acc++[⟨cx.id,⟨some ⟨b27,0,none⟩,1,1⟩⟩]) sB I I ⟨by dsimp only; omega,hle2.trans hle24,by
   dsimp only;rw[htk];exact (hacc.mono fun _ _=>ImR.mono hle24).append ⟨⟨I,hch⟩,trivial⟩⟩ (by dsimp only; omega)
 ·have hkk:T.take k=T:=tL oM;rw[hkk] at hacc;refine xI (tX<|tX<|bX<|tN<|sQ<|fS fun g3 hle3 hs3=>?_);obtain ⟨q3,d3,rfl⟩:=zc2 hs3;exact rG<|lK (qV 0 isAgg87 mR I I I)<|oZ (sK 1 mR I I I I I sB)<|tZ<|rE<|ST.retCD 1 s (.inl I) results117 I isAgg87 mR I I uR ⟨I,hle1.trans<|hle2.trans hle3,_,I,acc,hs3,hacc.mono fun _ _=>ImR.mono hle3⟩
end Go.Proofs.YtmmghffoakhheaaGreatDoor
