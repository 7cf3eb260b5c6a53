/- 14 -/
import Derived.Test.YtpmoadbbfobbcaaGreatDoorMe13
set_option linter.unusedSimpArgs false
set_option linter.unusedVariables false
namespace Go.Proofs.YtpmoadbbfobbcaaGreatDoor
open _root_.Go.Proofs.Tryz _root_.Go.Proofs.YtpmoadbbfobbcaaGreatDoor.Tryz
open Go Go.Sy Go.Pl Go.Proofs
set_option maxRecDepth 100000
set_option maxHeartbeats 2000000
def bC (A:List Cl)(e:Ed):Int:=if e.kind=1 then fX A e else if e.kind=2 then ji A e else if e.kind=3 then e6 A e else if e.kind=4 then jZ A e else if e.kind=5 then tq A e else 1
def cq (A:List Cl)(e:Ed):List Cl:=if e.kind=1 then A++[⟨e.cell,e.dim,e.sides⟩] else if e.kind=2 then cd A [e.cell] else if e.kind=3 then dZ A e else if e.kind=4 then eP A e else cd A [e.cell,e.other]
def AD (A:List Cl)(e:Ed)(k:Int):List Tm:=if e.kind=3 then tx e k else if e.kind=4 then tT e k else if e.kind=5 then Cb A e k else [(k,1)]
def bkK (e:Ed):Bool:=decide<|e.kind=2
def dP (l:List Cl)(e:Ed):Int×List Cl:=if (aq l).2=0 then aX (bC (aa l) e) (cq (aa l) e) else (1,[])
def BX (l:List Cl)(e:Ed):List<|Int×List Tm:=(if bkK e then (dP l e).2 else aa l).map fun c=>(c.id,AD (aa l) e c.id)
variable {A B l W L R D:List Cl}{x c:Cl}{id:Int}{r v:Value}{g':PH}{q:Int→Bool}
theorem fM.congr {code:Int}{d a:List<|Int×List Tm}{bk e:Bool}{g:PH}(h:fM code D d bk r g)(j:code=0→d=a)(hb:code=0→bk=e):fM code D a e r g:=by
 obtain ⟨u,p,n,c,b,k,l,m,o⟩:=h;refine⟨u,p,n,c,b,k,l,fun f=>?_,o⟩;obtain ⟨q,i⟩:=m f;rw[j f] at i;exact⟨q.trans<|hb f,i⟩
theorem Db (hn:(A.map Cl.id).Nodup)(a:Int):BZ A a=cd A [a]:=by
 have b:A=um A []:=(List.filter_eq_self.2 fun _ _=>by simp).symm;have:=Dd hn [] a;rw[← b] at this;exact this
theorem Dc (hn:(A.map Cl.id).Nodup)(ks:List Int):((cd A ks).map Cl.id).Nodup:=(List.filter_sublist.map Cl.id).nodup hn
theorem o9 (h:Rt A)(ks:List Int):aa (cd A ks)=cd A ks∧am (cd A ks)=cd A ks:=by
 have e:(cd A ks).Pairwise fun a b=>a.id<b.id:=h.asc.sublist List.filter_sublist;have d:aa (cd A ks)=cd A ks:=by
  unfold aa;rw[(bl (key:=Cl.id) (e.imp fun h=>by omega)<|aN.refl _).symm];have:∀ c∈cd A ks,cH c=c:=fun c hc=>by
   unfold cH;rw[(bl (key:=ak.cell) ((h.form c (zh5.1 hc).1).asc.imp fun h=>by omega)<|aN.refl c.sides).symm]
  rw[zc9 this];simp
 exact⟨d,by rw[bH<|by rw[d];exact e,d]⟩
theorem AN (h:Rt A)(e:Ed)(hc:e6 A e=0):aM<|oe A e:=by
 rw[qr h e hc];have hl:=h.few;refine⟨by simp only[ze6,ze7,ze9,zc5];omega,fun c hc=>?_⟩
 rcases zf4.1 hc with hc | hc
 ·obtain ⟨y,a,rfl⟩:=zf3.1 hc;have b:=h.few64 a;have d:(eW e y.sides).length≤y.sides.length:=by unfold eW;rw[ze7];exact zc6 _ _
  unfold bQ;split
  ·simp
  ·simp only[ze6];omega
 ·simp at hc
  rcases hc with rfl | rfl <;> simp
theorem Bo (a:aM A)(e:Ed):aM<|ky A e:=by
 refine⟨?_,fun c hc=>?_⟩
 ·unfold ky;rw[ze7];exact Nat.lt_of_le_of_lt (zc6 _ _) a.1
 ·unfold ky at hc;obtain ⟨y,b,rfl⟩:=zf3.1 hc;have d:=a.2 y (zh5.1 b).1;show (mu<|y.sides.map<|lf<|byF e.pairs).length<_;rw[(jb _).length_eq,ze7];exact d
theorem BF {e:Ed}(h:fX A e=0):mx A ⟨e.cell,e.dim,e.sides⟩=A++[⟨e.cell,e.dim,e.sides⟩]:=by
 refine ox fun x b a=>?_;unfold fX at h;have c:(ah A e.cell).isSome=true:=by
  unfold ah;rw[List.find?_isSome];exact⟨x,b,by simpa using a⟩
 rw[c] at h;cases h
def F4 (A:List Cl)(e:Ed):Prop :=
  ∃ fv B,eU rk e.kind=some fv∧ui fv e A (bC A e) B (AD A e) (bkK e)∧(bC A e=0→aM B∧(B.map Cl.id).Nodup∧aX 0 B=aX 0 (cq A e))
theorem DA (hA:Rt A)(e:Ed)(a:e.sides.length<1099511627776)(b:e.kind=1∨e.kind=2):F4 A e:=by
 unfold F4 bC AD bkK cq;have f:(fun k:Int=>[(k,(1:Int))])=GY:=rfl
 rcases b with b | b <;> simp only[b] <;> simp only[Int.reduceEq,if_true,if_false,decide_true,decide_false]
 ·refine⟨_,mx A ⟨e.cell,e.dim,e.sides⟩,I,(BE A e a).gen,fun d=>?_⟩;have hB:=BF d;refine⟨?_,kV hA.ids,by rw[hB]⟩;rw[hB];have hl:=hA.few;refine⟨by rw[ze6,ze8];omega,fun c hc=>?_⟩
  rcases zf4.1 hc with hc | hc
  ·exact hA.fits.2 c hc
  ·simp at hc;subst hc;exact a
 ·refine⟨_,BZ A e.cell,I,(AX A hA.fits e).gen,fun d=>?_⟩;rw[Db hA.ids];exact⟨ir hA.fits _,Dc hA.ids _,I⟩
theorem BB {e:Ed}(a:¬ (e.kind=1∨e.kind=2∨e.kind=3∨e.kind=4∨e.kind=5)):bC A e=1:=by
 unfold bC;rw[zg1 oM,zg1 oM,zg1 oM,zg1 oM,zg1 oM]
theorem jt.congr {g0:PH}{code:Int}{d a:List<|Int×List Tm}{bk e:Bool}{g:PH}(h:jt g0 code D d bk r g)(j:code=0→d=a)(hb:code=0→bk=e):jt g0 code D a e r g:=by
 obtain ⟨u,p,n,c,b,k,l,m,o⟩:=h;refine⟨u,p,n,c,b,k,l,fun f=>?_,o⟩;obtain ⟨q,i⟩:=m f;rw[j f] at i;exact⟨q.trans<|hb f,i⟩
variable (E:World)(g:PH)(s:Own)
theorem DY (v ev:Value)(l:List Cl)(e:Ed)(k:ai g v l)(m:aM l)(n:EdR g ev e)(hr:(aq l).2=0)(o:F4 (aa l) e) :
  Ctr Tryz.prog E 32 #[.agg #[v],ev] g s fun r g' s'=>s=s'∧Le g g'∧jt g (dP l e).1 (dP l e).2 (BX l e) (bkK e) r g':=by
 have hA:=i9 hr;have d:dP l e=aX (bC (aa l) e) (cq (aa l) e):=zg2 hr;obtain ⟨p,B,q,t,f⟩:=o;have b:aX (bC (aa l) e) B=dP l e:=by
  rw[d];by_cases a:bC (aa l) e=0
  ·rw[a];exact (f a).2.2
  ·unfold aX;rw[zg2 a,zg2 a]
 have u:=BH E g s v ev l e k m n hr p (bC (aa l) e) B (bkK e) q (AD (aa l) e) t fun a=>⟨(f a).1,(f a).2.1⟩;refine u.mono fun r g' s' ⟨w,x,j⟩=>⟨w,x,?_⟩;rw[b] at j;refine j.congr (fun a=>?_) fun _=>I;have y:aa B=(dP l e).2:=by
  rw[← b] at a ⊢;unfold aX at a ⊢;split at a
  ·rename_i i;exact absurd a i
  ·rename_i i;rw[zg1 i];split at a
   ·rename_i c;exact absurd a c
   ·rename_i c;rw[zg1 c]
 unfold BX;rw[y]
theorem DZ (v ev:Value)(l:List Cl)(e:Ed)(c:ai g v l)(d:aM l)(f:EdR g ev e)(b:e.sides.length<1099511627776)(i:e.kind=1∨e.kind=2) :
  Ctr Tryz.prog E 32 #[.agg #[v],ev] g s fun r g' s'=>s=s'∧Le g g'∧jt g (dP l e).1 (dP l e).2 (BX l e) (bkK e) r g':=by
 by_cases hr:(aq l).2=0
 ·exact DY E g s v ev l e c d f hr<|DA (i9 hr) e b i
 ·have a:dP l e=(1,[]):=zg1 hr;rw[a];exact BI E g s v ev l e c d f _ _<|.inr hr
def GU (e:Ed):Prop:=∀ (E:World) (g:PH) (s:Own) (v ev:Value) (l:List Cl),ai g v l→aM l→EdR g ev e →
  Ctr Tryz.prog E 32 #[.agg #[v],ev] g s (fun r g' s'=>s=s'∧Le g g'∧fM (dP l e).1 (dP l e).2 (BX l e) (bkK e) r g')
theorem GO {e:Ed}(a:e.sides.length<1099511627776)(b:e.kind=1∨e.kind=2):GU e:=fun E g s v ev l c d f =>
 (DZ E g s v ev l e c d f a b).mono fun _ _ _ ⟨i,j,k⟩=>⟨i,j,k.old⟩
theorem mH (v ev:Value)(l:List Cl)(e:Ed)(j:ai g v l)(w:aM l)(k:EdR g ev e)(B:e.sides.length<1099511627776)(J:e.pairs.length<100000000000) :
  Ctr Tryz.prog E 71 #[.agg #[v],ev] g s fun r g' s'=>s=s'∧Le g g'∧fM (dP l e).1 (dP l e).2 (BX l e) (bkK e) r g':=by
 by_cases hr:(aq l).2=0
 ·have hA:=i9 hr;have d:=hA.fits;have x:dP l e=aX (bC (aa l) e) (cq (aa l) e):=zg2 hr;by_cases a:e.kind=1∨e.kind=2∨e.kind=3∨e.kind=4∨e.kind=5
  ·have m:∀ (D:List Cl) (y:List<|Int×List Tm) (bk:Bool) (r:Value) (g':PH),D=(if bC (aa l) e=0 then cq (aa l) e else aa l)→(bC (aa l) e=0→y=(if bkK e then am (cq (aa l) e) else aa l).map fun c=>(c.id,AD (aa l) e c.id))→(bC (aa l) e=0→bk=bkK e)→(bkK e=true→bC (aa l) e=0→am (cq (aa l) e)=aa (cq (aa l) e)) →
     fM (aX (bC (aa l) e) D).1 (aX (bC (aa l) e) D).2 y bk r g'→fM (dP l e).1 (dP l e).2 (BX l e) (bkK e) r g':=fun D y bk r g' O P hb Q p=>by
    have n:aX (bC (aa l) e) D=dP l e:=by
     rw[x,O];by_cases b:bC (aa l) e=0
     ·rw[zg2 b]
     ·unfold aX;rw[zg2 b,zg2 b]
    rw[n] at p;have C:(dP l e).1=0→bC (aa l) e=0∧(dP l e).2=aa (cq (aa l) e):=fun b=>by
     rw[x] at b ⊢;unfold aX at b ⊢;split at b
     ·rename_i H;exact absurd b H
     ·rename_i H;rw[zg1 H];split at b
      ·rename_i z;exact absurd b z
      ·rename_i z;rw[zg1 z];exact⟨Decidable.not_not.1 H,I⟩
    refine p.congr (fun b=>?_) fun b=>hb (C b).1;obtain ⟨N,R⟩:=C b;rw[P N];unfold BX;rw[R];cases K:bkK e with
    | false=>rfl
    | true=>rw[zg2 rfl,zg2 rfl,Q K N]
   have q:aM<|if bC (aa l) e=0 then cq (aa l) e else aa l:=by
    split
    ·rename_i b
     rcases a with a | a | a | a | a <;> unfold cq <;> simp only[a] <;> simp only[Int.reduceEq,if_true,if_false]
     ·have hl:=hA.few;refine⟨by rw[ze6,ze8];omega,fun c hc=>?_⟩
      rcases zf4.1 hc with hc | hc
      ·exact d.2 c hc
      ·simp at hc;subst hc;exact B
     ·exact ir d _
     ·have F:e6 (aa l) e=0:=by unfold bC at b;simp only[a] at b;simpa using b
      exact (Ey hA e F).fits<|AN hA e F
     ·exact (E4 _ e).fits<|Bo d e
     ·exact ir d _
    ·exact d
   rcases a with a | a | a | a | a
   ·have f:bC (aa l) e=fX (aa l) e:=by unfold bC;rw[zg2 a]
    have i:cq (aa l) e=aa l++[⟨e.cell,e.dim,e.sides⟩]:=by unfold cq;rw[zg2 a]
    have h:=gO E g s v ev l e (bC (aa l) e) (if bC (aa l) e=0 then cq (aa l) e else aa l) ((am<|aa l).map gW) false j w k hr q (.inl a)
     (fun _ E g s v ev j k=>by rw[i];exact rM E g s v ev (aa l) e j d k B (bC (aa l) e)<|by rw[f,hA.findC];rfl)
     (fun h=>by omega) (fun h=>by omega) (fun h=>by omega) (fun h=>by omega)
    refine h.mono fun r g' s' ⟨t,u,p⟩=>⟨t,u,m _ _ _ _ _ I (fun _=>?_) (fun _=>?_) (fun hb=>?_) p⟩
    ·have hb:bkK e=false:=by unfold bkK;rw[a];rfl
     rw[hb,hA.tab];refine zc9 fun c _=>?_;unfold AD;rw[zg1 oM,zg1 oM,zg1 oM];rfl
    ·unfold bkK;rw[a];rfl
    ·unfold bkK at hb;rw[a] at hb;cases hb
   ·have f:bC (aa l) e=ji (aa l) e:=by unfold bC;rw[zg1 oM,zg2 a]
    have i:cq (aa l) e=cd (aa l) [e.cell]:=by unfold cq;rw[zg1 oM,zg2 a]
    have h:=gO E g s v ev l e (bC (aa l) e) (if bC (aa l) e=0 then cq (aa l) e else aa l) ((am<|cd (aa l) [e.cell]).map gW) (decide<|bC (aa l) e=0) j w k hr q (.inr<|.inl a)
     (fun h=>by omega)
     (fun _ E g s v ev j k=>by rw[i];exact rK E g s v ev (aa l) e j d k (bC (aa l) e)<|by rw[f,hA.findC];rfl)
     (fun h=>by omega) (fun h=>by omega) (fun h=>by omega)
    have hb:bkK e=true:=by unfold bkK;rw[a];rfl
    refine h.mono fun r g' s' ⟨t,u,p⟩=>⟨t,u,m _ _ _ _ _ I (fun _=>?_) (fun b=>?_) (fun hb b=>?_) p⟩
    ·rw[hb,zg2 rfl,i];refine zc9 fun c _=>?_;unfold AD;rw[zg1 oM,zg1 oM,zg1 oM];rfl
    ·rw[hb];exact zf9 b
    ·rw[i,(o9 hA _).1,(o9 hA _).2]
   ·have f:bC (aa l) e=bD (aa l) e:=by unfold bC;rw[zg1 oM,zg1 oM,zg2 a,wG hA]
    have i:cq (aa l) e=dZ (aa l) e:=by unfold cq;rw[zg1 oM,zg1 oM,zg2 a]
    have h:=gO E g s v ev l e (bC (aa l) e) (if bC (aa l) e=0 then cq (aa l) e else aa l) (((am<|aa l).map gW).map<|dx e.cell<|dG e) false j w k hr q (.inr<|.inr<|.inl a)
     (fun h=>by omega) (fun h=>by omega)
     (fun _ E g s v ev j k=>by
      rw[i,f];refine uL E g s v ev (aa l) e j d k (by have:=hA.few;omega) (fun c hc=>hA.few64 hc) ?_;intro c hc hd;rw[hA.findC] at hc;exact hA.edge (aC hc).1 hd)
     (fun h=>by omega) (fun h=>by omega)
    have hb:bkK e=false:=by unfold bkK;rw[a];rfl
    refine h.mono fun r g' s' ⟨t,u,p⟩=>⟨t,u,m _ _ _ _ _ I (fun _=>?_) (fun _=>hb.symm) (fun o=>by rw[hb] at o;cases o) p⟩;rw[hb,wE hA];refine zc9 fun c _=>?_;unfold AD;rw[zg2 a]
   ·have f:bC (aa l) e=dE (aa l) e:=by unfold bC;rw[zg1 oM,zg1 oM,zg1 oM,zg2 a,nY hA]
    have i:cq (aa l) e=eP (aa l) e:=by unfold cq;rw[zg1 oM,zg1 oM,zg1 oM,zg2 a]
    have h:=gO E g s v ev l e (bC (aa l) e) (if bC (aa l) e=0 then cq (aa l) e else aa l) (fJ e.pairs<|(am<|aa l).map gW) false j w k hr q (.inr<|.inr<|.inr<|.inl a)
     (fun h=>by omega) (fun h=>by omega) (fun h=>by omega)
     (fun _ E g s v ev j k=>by
      rw[i,f];refine oD E g s v ev (aa l) e j d k J ?_;intro id;unfold jo;rw[hA.findC]
      rcases hA.getD id with L | L
      ·rw[L];decide
      ·exact d.2 _ L)
     (fun h=>by omega)
    have hb:bkK e=false:=by unfold bkK;rw[a];rfl
    refine h.mono fun r g' s' ⟨t,u,p⟩=>⟨t,u,m _ _ _ _ _ I (fun b=>?_) (fun _=>hb.symm) (fun o=>by rw[hb] at o;cases o) p⟩;rw[f,nY hA] at b;rw[hb,wV hA e<|DH b];refine zc9 fun c _=>?_;unfold AD;rw[zg1 oM,zg2 a]
   ·have f:bC (aa l) e=df (aa l) e:=by unfold bC;rw[zg1 oM,zg1 oM,zg1 oM,zg1 oM,zg2 a,sX hA]
    have i:cq (aa l) e=cd (aa l) [e.cell,e.other]:=by unfold cq;rw[zg1 oM,zg1 oM,zg1 oM,zg1 oM]
    have G:((findC (aa l) e.other).getD aJ).sides=mn (aa l) e:=by rw[hA.findC];rfl
    have h:=gO E g s v ev l e (bC (aa l) e) (if bC (aa l) e=0 then cq (aa l) e else aa l) ((((am<|aa l).map gW).map<|dx e.cell<|fY (aa l) e).map<|dx e.other []) false j w k hr q (.inr<|.inr<|.inr<|.inr a)
     (fun h=>by omega) (fun h=>by omega) (fun h=>by omega) (fun h=>by omega)
     (fun _ E g s v ev j k=>by
      rw[i,f];refine oE E g s v ev (aa l) e j d k ?_ ?_
      ·rw[G];exact yZ hA e
      ·rw[G];exact wZ hA e)
    have hb:bkK e=false:=by unfold bkK;rw[a];rfl
    refine h.mono fun r g' s' ⟨t,u,p⟩=>⟨t,u,m _ _ _ _ _ I (fun b=>?_) (fun _=>hb.symm) (fun o=>by rw[hb] at o;cases o) p⟩;rw[f,sX hA] at b;have S:aG (aa l) e.cell=[e.other]:=by
     unfold tq at b;split at b
     ·split at b
      ·rename_i h;exact h.1
      ·cases b
     ·cases b
    rw[hb,BA hA e S];refine zc9 fun c _=>?_;unfold AD;rw[zg1 oM,zg1 oM,zg2 a]
  ·have M:=BB (A:=aa l) a;have n:dP l e=(1,[]):=by rw[x,M];rfl
   rw[n];exact uO E g s v ev l e _ _ j w k hr oM oM oM oM oM
 ·have n:dP l e=(1,[]):=zg1 hr;rw[n];exact wP E g s v ev l e _ _ j w k hr
set_option maxHeartbeats 4000000
set_option maxHeartbeats 8000000
set_option maxHeartbeats 1000000
theorem zh {code:Int}(h:(aX code B).1=0):Rt (aX code B).2∧code=0∧(aX code B).2=aa B:=by
 unfold aX at h ⊢;split at h
 ·rename_i a;exact absurd h a
 ·rename_i a;rw[zg1 a];split at h
  ·rename_i b;exact absurd h b
  ·rename_i b;rw[zg1 b];have c:=i9<|Decidable.not_not.1 b;rw[ge] at c;exact⟨c,Decidable.not_not.1 a,I⟩
theorem tr {e:Ed}(h:(dP l e).1=0):Rt (dP l e).2∧(aq l).2=0∧bC (aa l) e=0∧(dP l e).2=aa (cq (aa l) e):=by
 unfold dP at h ⊢;split at h
 ·rename_i a;rw[zg2 a];obtain ⟨b,c,d⟩:=zh h;exact⟨b,a,c,d⟩
 ·cases h
theorem Fn {e:Ed}(h:(dP l e).1≠0):(dP l e).2=[]:=by
 unfold dP at h ⊢;split at h
 ·rename_i a;rw[zg2 a];unfold aX at h ⊢;split at h
  ·rename_i b;rw[zg2 b]
  ·rename_i b;rw[zg1 b];split at h
   ·rename_i c;rw[zg2 c]
   ·exact absurd I h
 ·rename_i a;rw[zg1 a]
theorem pZ (l:List Cl)(e:Ed):aM (dP l e).2:=by
 by_cases h:(dP l e).1=0
 ·exact (tr h).1.fits
 ·rw[Fn h];exact⟨by simp,by simp⟩
theorem Tryz.sty34:STy Tryz.prog 34 74 2 32<|.agg #[.slice none 0 0,vb false]:=⟨underlying34,⟨t74,by kernel_rfl,by kernel_rfl,by kernel_rfl,by kernel_rfl⟩,rfl,by decide⟩
theorem Tryz.sty32:STy Tryz.prog 32 48 7 88<|.agg #[vi 0,vi 0,vi 0,vi 0,vi 0,.slice none 0 0,.slice none 0 0]:=⟨underlying32,⟨t48,by kernel_rfl,by kernel_rfl,by kernel_rfl,by kernel_rfl⟩,rfl,by decide⟩
structure Er where
 kind:Int
 cell:Int
 dim:Int
 new:Int
 other:Int
 sv:Sv
 pv:Sv
def fc:Enc Er 7:=⟨fun r=>[vi r.kind,vi r.cell,vi r.dim,vi r.new,vi r.other,.slice r.sv.p r.sv.n r.sv.c,.slice r.pv.p r.pv.n r.pv.c],fun _=>rfl,fun _ u hu=>by simp at hu;rcases hu with rfl | rfl | rfl | rfl | rfl | rfl | rfl <;> rfl,by decide⟩
def erv (r:Er):Value:=.agg (fc.enc r).toArray
def EdK (g:PH)(e:Ed)(r:Er):Prop:=EdR g (erv r) e
theorem EdK.mono {g:PH}(hl:Le g g'){e:Ed}{r:Er}(h:EdK g e r):EdK g' e r:=EdR.mono h hl
theorem EdR.rc {g:PH}{e:Ed}(h:EdR g v e):∃ r:Er,v=erv r∧EdK g e r:=by
 obtain ⟨sv,pv,rfl,a,b⟩:=h;obtain ⟨p,c,rfl⟩:=za4 a;obtain ⟨q,d,rfl⟩:=za4 b;exact⟨⟨e.kind,e.cell,e.dim,e.new,e.other,⟨p,e.sides.length,c⟩,⟨q,e.pairs.length,d⟩⟩,I,_,_,I,a,b⟩
def EdS (e:Ed):Prop:=e.sides.length<1099511627776∧e.pairs.length≤3
def Eds (g:PH)(v:Value)(l:List Ed):Prop:=∃ rs,SlA fc g v rs∧ay (EdK g) l rs
theorem Eds.mono {g:PH}{l:List Ed}(h:Eds g v l)(hl:Le g g'):Eds g' v l:=by
 obtain ⟨rs,a,b⟩:=h;exact⟨rs,za5 a hl,b.mono fun _ _=>EdK.mono hl⟩
theorem Eds.form {g:PH}{l:List Ed}(h:Eds g v l):∃ p c,v = .slice p l.length c:=by
 obtain ⟨rs,a,b⟩:=h;rw[b.length];exact za4 a
structure Sr where
 sv:Sv
 bk:Bool
abbrev Stp:=List (Int×List Tm)×Bool
def o4:Enc Sr 2:=⟨fun r=>[.slice r.sv.p r.sv.n r.sv.c,vb r.bk],fun _=>rfl,fun _ u hu=>by simp at hu;rcases hu with rfl | rfl <;> rfl,by decide⟩
def srv (r:Sr):Value:=.agg (o4.enc r).toArray
def StK (g:PH)(x:Stp)(r:Sr):Prop:=r.bk=x.2∧Ims g (.slice r.sv.p r.sv.n r.sv.c) x.1
theorem StK.mono {g:PH}(hl:Le g g'){x:Stp}{r:Sr}(h:StK g x r):StK g' x r:=⟨h.1,h.2.mono hl⟩
def Sts (g:PH)(v:Value)(l:List Stp):Prop:=∃ rs,SlA o4 g v rs∧ay (StK g) l rs
theorem Sts.nil (g:PH):Sts g (.slice none 0 0) []:=⟨[],zc1 g _,trivial⟩
def imO (l:List Cl)(e:Ed):Stp:=if (dP l e).1=0 then (BX l e,bkK e) else ([],false)
theorem fM.one {e:Ed}{g:PH}(h:fM (dP l e).1 (dP l e).2 (BX l e) (bkK e) r g) :
  ∃ u:Sv,∃ x:Sr,r = .tuple #[.agg #[.slice u.p u.n u.c],srv x,vi (dP l e).1]∧ai g (.slice u.p u.n u.c) (dP l e).2∧StK g (imO l e) x:=by
 obtain ⟨u,p,n,c,b,i,f,j,k⟩:=h;obtain ⟨q,d,rfl⟩:=f.form;refine⟨⟨q,_,d⟩,⟨⟨p,n,c⟩,b⟩,i,f,?_⟩;unfold imO;by_cases a:(dP l e).1=0
 ·rw[zg2 a];exact j a
 ·rw[zg1 a];exact k a
def l9:List Cl→List Stp→Nat→List Ed→(Int×Int)×List Cl×List Stp
 | A,ss,_,[]=>((0,0),A,ss)
 | A,ss,i,e::es=>if (dP A e).1=0 then l9 (dP A e).2 (ss++[imO A e]) (i+1) es else (((dP A e).1,(i:Int)),[],[])
def gY (l:List Cl)(es:List Ed):(Int×Int)×List Cl×List Stp:=if 1000<es.length then ((2,0),[],[]) else if (aq l).2≠0 then ((1,0),[],[]) else l9 (aa l) [] 0 es
def AG (R:(Int×Int)×List Cl×List Stp)(r:Value)(g:PH):Prop:=∃ u p n c,r = .tuple #[.agg #[u],.slice p n c,vi R.1.2,vi R.1.1]∧ai g u R.2.1∧Sts g (.slice p n c) R.2.2
theorem Tryz.xA48 (a b d:Int)(q:Option Addr)(c e:Nat)(w:World):(Instr.build 48 #[(0,vi a),(1,vi b),(2,vi d),(5,.slice q c e)]).run Tryz.prog w = .ok (.agg #[vi a,vi b,vi d,vi 0,vi 0,.slice q c e,.slice none 0 0]) w:=by
 have f:∀ a:Int,(vi a).cells = #[vi a]:=fun _=>rfl;have g:(Value.slice q c e).cells = #[.slice q c e]:=rfl;simp[Instr.build,Instr.fill,f,g];rfl
theorem Tryz.xB48 (a b:Int)(w:World):(Instr.build 48 #[(0,vi a),(1,vi b)]).run Tryz.prog w = .ok (.agg #[vi a,vi b,vi 0,vi 0,vi 0,.slice none 0 0,.slice none 0 0]) w:=by
 have c:∀ a:Int,(vi a).cells = #[vi a]:=fun _=>rfl;simp[Instr.build,Instr.fill,c];rfl
theorem jw (n:Int):bh<|IntKind.i64.wrap n:=by
 have h:IntKind.i64.wrap n=if (decide<|n % 18446744073709551616≥9223372036854775808)=true then n % 18446744073709551616 - 18446744073709551616 else n % 18446744073709551616:=by
  simp[IntKind.wrap,IntKind.bits,IntKind.signed]
 rw[h];unfold bh;by_cases a:n % 18446744073709551616≥9223372036854775808
 ·rw[zg2<|zf9 a];omega
 ·rw[zg1<|by simpa using a];omega
theorem wW (v:Value)(l:List Cl)(t:ai g v l)(w:aM l) :
  Ctr Tryz.prog E 120 #[.agg #[v]] g s fun r g' s'=>s=s'∧g=g'∧∃ n:Int,r=vi n∧bh n:=by
 obtain ⟨rs,a,b⟩:=t;have y:=w.1;have m:=b.length;obtain ⟨p,c,rfl⟩:=za4 a;refine zb2 (args:=[.agg #[.slice p rs.length c]]) func120 I ntmps120 (bE I)<|rZ (bW (bO I) fun q=>?_);refine aT I<|rZ<|aT I<|sQ<|rZ<|aT I<|bK<|oP (ι:=Nat×Int) (fun k=>[(1,pp q 0),(3,vi k.2),(4,vi k.1)]) (fun _=>g) (fun _=>pt q (bY #[.slice p rs.length c] 29)::s)
  (fun k=>k.1≤rs.length∧bh k.2) (fun k=>rs.length - k.1) (0,1) sB rfl rfl ⟨zf7 _,by unfold bh;dsimp only;omega⟩ ?_
 rintro ⟨k,n⟩ ⟨z,hn⟩;dsimp only at z hn ⊢;refine sQ<|sW I<|lU (bj dw I cg I)<|lK (qL (v:=.slice p rs.length c) ei I<|cO 0 I I)<|lU (eN aB I)<|yL I<|tZ<|iP I (fun f=>?_) (fun f=>?_)
 ·have i:k<rs.length:=oM;have d:=za6 a oM;have j:rs[((k:Nat):Int).toNat]?=some rs[k]:=bd i;generalize rs[k]=x at *;refine kP<|tN<|sQ<|bK<|rG<|lM I<|lU (bj dw I cg I)<|lK (qL (v:=.slice p rs.length c) ei I<|cO 0 I I)<|lM I<|lU (iA aB ar I I d oM sL)<|lU (fC ap I zT3 I d)<|lK (aZ (e:=encCell) (o:=0) (u:=vi x.id) iT3 I (za7 a) j I)<|lU (ze2 I I)<|lU (SU.maxI I I)<|lA I<|cp<|bN<|tN<|rG<|lM I<|yD I<|lA I<|cp ?_;exact ct (k+1,_) sB I I ⟨by dsimp only;omega,by
   have A:=jw<|x.id+1;dsimp only;unfold bh at A hn ⊢;omega⟩ (by dsimp only;omega)
 ·exact xI<|tX<|tX<|bX<|tN<|sW I<|aT I<|rE<|dR (s':=s) uR<|za8 (.inl I) results120 I ⟨I,I,_,I,hn⟩
theorem qC (v:Value)(l:List Int)(n:Int)(b:dA g v l)(hl:l.length<1099511627776) :
  Ctr Tryz.prog E 121 #[v,vi n] g s fun r g' s'=>s=s'∧g=g'∧∃ y:Int,r=vi y∧(y=0∨y∈l):=by
 obtain ⟨p,c,rfl⟩:=za4 b;refine zb2 (args:=[.slice p l.length c,vi n]) func121 I ntmps121 (bE I)<|rZ<|aT I<|sQ<|sW I<|lU (eN aA I)<|yE I<|tZ<|iP I (fun i=>?_) (fun i=>?_)
 ·exact rZ<|aT I<|rE<|tR<|za8 (.inl I) results121 I ⟨I,I,_,I,.inl I⟩
 ·obtain ⟨d,a⟩:=tJ n l.length oM oM;have hb:=za6 b oM;have e:l[(ci n l.length).toNat]?=some l[(ci n l.length).toNat]:=bd a;have f:l[(ci n l.length).toNat]∈l:=gM a;generalize l[(ci n l.length).toNat]=y at *;refine kP<|tN<|sW I<|lM I<|lM I<|lU (eN aA I)<|lW (bt my I<|bL E g _ n l.length oM) ?_;rintro _ _ _ ⟨rfl,rfl,rfl⟩;rw[d];exact lU (iA aA zT3 I I hb oM sL)<|lK (eB (u:=vi y) iT3 I (za7 b) e I)<|aT I<|rE<|za8 (.inl I) results121 I ⟨I,I,_,I,.inr f⟩
theorem eh (v:Value)(l:List Int)(n:Int)(a:dA g v l)(hl:l.length<1099511627776) :
  Ctr Tryz.prog E 121 #[v,vi n] g s (fun r g' s'=>s=s'∧g=g'∧∃ n:Int,r=vi n) :=
 (qC E g s v l n a hl).mono fun _ _ _ ⟨b,c,y,d,_⟩=>⟨b,c,y,d⟩
theorem Dy (l:List Int):decide ((l.length:Int)=0)=decide (l=[]):=by
 rw[Bool.eq_iff_iff,zj7,zj7];exact⟨fun h=>zf5 oM,fun h=>by rw[h];rfl⟩
def m7 (l:List Cl)(id:Int):Bool:=match aG l id with
 | [m]=>decide (aG l m=[])
 | _=>false
theorem yT (v:Value)(l:List Cl)(S:ai g v l)(G:aM l) :
  Ctr Tryz.prog E 124 #[.agg #[v]] g s fun r g' s'=>s=s'∧Le g g'∧∃ ps:List Pr,SlA em g' r ps∧ps.length<1099511627776:=by
 have J:=S;obtain ⟨rs,t,A⟩:=S;have V:=G.1;have T:=A.length;obtain ⟨p,c,rfl⟩:=za4 t;refine zb2 (args:=[.agg #[.slice p rs.length c]]) func124 I ntmps124 (bE I)<|rZ (bW (bO I) fun H=>?_);refine aT I<|rZ<|aT I<|sQ<|rZ<|aT I<|bK<|zb6 88 2<|oP (ι:=Nat×PH×Value×List Pr) (fun i=>[(1,pp H 0),(3,i.2.2.1),(4,vi i.1)]) (fun i=>i.2.1) (fun i=>rowA em 88 i.2.2.1 i.2.2.2::pt H (bY #[.slice p rs.length c] 29)::s)
  (fun i=>i.1≤rs.length∧Le g i.2.1∧i.2.2.2.length≤i.1) (fun i=>rs.length - i.1) (0,g,.slice none 0 0,[]) sB rfl rfl ⟨zf7 _,zb9 _,zf7 _⟩ ?_
 rintro ⟨k,g1,L,acc⟩ ⟨W,b,M⟩;dsimp only at W b M ⊢;refine sQ<|sW I<|lU (bj dw I cg I)<|lK (qL (v:=.slice p rs.length c) ei I<|cO 1 I I)<|lU (eN aB I)<|yL I<|tZ<|iP I (fun N=>?_) (fun N=>?_)
 ·have O:k<rs.length:=oM;have n:=za6 t oM;have q:=za5 t b;have B:=J.mono b;have C:rs[((k:Nat):Int).toNat]?=some rs[k]:=bd O;generalize rs[k]=x at *;have U:(aG l x.id).length<1099511627776:=Nat.lt_of_le_of_lt (by unfold aG;rw[ze7];exact zc6 _ _) (bG G).1;refine kP<|tN<|sQ<|bK<|sQ<|dW [] [(0,1),(1,2),(2,1),(3,2),(4,2),(5,2),(6,1),(7,0),(8,2)] ze4 kR<|gB I (qV 1 aj ae I I I)<|pU I (bj dw I cg I)<|gB I (qL (v:=.slice p rs.length c) ei I<|cO 1 I I)<|yM I<|pU I (iA aB ar I I n oM sL)<|pU I (fC ap I zT3 I n)<|gB I (aZ (e:=encCell) (o:=0) (u:=vi x.id) iT3 I (za7 q) C I)<|mf I (bt call179 I<|dH E g1 _ _ l x.id B G) dC (.inr iR) ?_;rintro _ g2 _ ⟨rfl,d,f⟩;obtain ⟨X,d2,rfl⟩:=za4 f;have P:=B.mono d;have D:=za5 q d;refine pU I (aS I)<|du<|tN<|lu (ι:=PH) (fun _=>[(1,pp H 0),(3,L),(4,vi k),(5,.slice X (aG l x.id).length d2),(32,vb<|m7 l x.id)]) (fun g'=>g') (fun _=>rowA em 88 L acc::pt H (bY #[.slice p rs.length c] 29)::s) (fun g'=>Le g2 g') ?_ ?_
  ·by_cases Q:(aG l x.id).length=1
   ·obtain ⟨m,hm⟩:∃ m,aG l x.id=[m]:=by
     match hq:aG l x.id,Q with
     | [m],_=>exact⟨m,rfl⟩
    have w:m7 l x.id=decide (aG l m=[]):=by unfold m7;rw[hm]
    have y:=za6 f oM;have z:(aG l x.id)[((0:Nat):Int).toNat]?=some m:=by rw[hm];rfl
    refine C1 [] ze4 kR ?_;refine iO (i:=0) I kR (mV I) dC<|iO (i:=1) I kR (eN aA I) dC<|iO (i:=2) I kR (SU.eq (v':=vb true) (eQ I I)<|ze3 vb<|zf9 oM) dC<|iO (i:=3) I kR (mV I) dC<|SX.gq (i:=4) I kR (gT I I I dC) (qV 1 aj ae I I I) dC<|SX.gu (i:=5) I kR (gT I I I dC) (mV I) dC<|SX.gu (i:=6) I kR (gT I I I dC) (iA (i:=0) aA zT3 I I y dC (show (0:Int)<(((aG l x.id).length:Nat):Int) by omega)) dC (SX.gq (i:=7) I kR (gT I I I dC) (eB iT3 I (za7 f) z I) dC<|zd7 8 kR ?_)
    ·refine SB.go (i:=8) I (gT I I I dC) (bt call179 I<|dH E g2 _ _ l m P G) dC (.inr iR) ?_;rintro _ g3 _ ⟨rfl,a,R⟩;obtain ⟨q3,d3,rfl⟩:=za4 R;refine SX.gu (i:=9) I kR (gT I I I dC) (eN aA I) dC<|SX.gu (i:=10) I kR (gT I I I dC) (SU.eq (v':=vb<|decide<|aG l m=[]) (eQ I I)<|ze3 vb<|Dy _) dC<|iO (i:=11) I kR (wT I I) dC<|H5 kR ?_;exact za9 g3 ⟨I,I,I,I,(by rw[w];rfl),trivial⟩ rfl rfl a
   ·have w:m7 l x.id=false:=by
     unfold m7;split
     ·rename_i m hm;rw[hm] at Q;exact absurd I Q
     ·rfl
    refine C1 [] ze4 kR ?_;refine iO (i:=0) I kR (mV I) dC<|iO (i:=1) I kR (eN aA I) dC<|iO (i:=2) I kR (SU.eq (v':=vb false) (eQ I I)<|ze3 vb<|zf8 oM) dC<|iO (i:=3) I kR (mV I) dC<|JH (i:=4) I kR (gZ I I I dC) dC<|JH (i:=5) I kR (gZ I I I dC) dC<|JH (i:=6) I kR (gZ I I I dC) dC<|JH (i:=7) I kR (gZ I I I dC) dC (zd7 8 kR ?_)
    ·refine SB.offo (i:=8) I (gZ I I I dC) dC ⟨by exact zb9 _,(by exact .refl _)⟩ ?_;refine JH (i:=9) I kR (gZ I I I dC) dC<|JH (i:=10) I kR (gZ I I I dC) dC<|iO (i:=11) I kR (wF I I) dC<|H5 kR ?_;exact za9 g2 ⟨I,I,I,I,(by rw[w];rfl),trivial⟩ rfl rfl<|zb9 _
  rintro g3 a;try dsimp only at a ⊢
  have j:=b.trans<|d.trans a;refine iQ I (fun hb=>?_) (fun hb=>?_)
  ·obtain ⟨m,hm,Y⟩:∃ m,aG l x.id=[m]∧aG l m=[]:=by
    unfold m7 at hb;split at hb
    ·rename_i m hm;exact⟨m,hm,zg4 hb⟩
    ·cases hb
   have y:=za6 f (by rw[hm];simp);have z:(aG l x.id)[((0:Nat):Int).toNat]?=some m:=by rw[hm];rfl
   have Z:(aG l x.id).length=1:=by rw[hm];rfl
   refine dW [12] [(0,2),(1,2),(2,1),(3,2),(4,2),(5,2),(6,1),(7,2),(8,2),(9,1),(10,2),(11,0),(12,0),(13,2)] ze4 kR<|yM I<|pU I (bj dw I cg I)<|gB I (qL (v:=.slice p rs.length c) ei I<|cO 1 I I)<|yM I<|pU I (iA aB ar I I n oM sL)<|pU I (fC ap I zT3 I n)<|gB I (aZ (e:=encCell) (o:=0) (u:=vi x.id) iT3 I (za7<|za5 D a) C I)<|yM I<|pU I (iA (i:=0) aA zT3 I I y dC (show (0:Int)<(((aG l x.id).length:Nat):Int) by omega)) ?_;refine gB I (eB iT3 I (za7<|za5 f a) z I)<|pU I (za3 I<|build88 _ _)<|mf I (bS sty46 I I I (ab ⟨I,trivial⟩) dC) dC (.inr iR) ?_;rintro _ _ _ ⟨a0,rfl,rfl,rfl⟩;refine mf I (aP (e:=em) (l:=acc) 0 (x.id,m) sty46 I I I I I oM oM) dC (.inl dC) ?_;rintro ov' _ _ ⟨rfl,rfl⟩;refine pU I (aS I)<|du<|bN<|tN<|rG<|lM I<|yD I<|lA I<|cp ?_;exact ct (k+1,g3,ov',acc++[(x.id,m)]) sB I I ⟨by dsimp only;omega,j,by dsimp only;rw[ze6,ze8];omega⟩ (by dsimp only;omega)
  ·exact kP<|bN<|tN<|rG<|lM I<|yD I<|lA I<|cp<|ct (k+1,g3,L,acc) sB I I ⟨by dsimp only;omega,j,by dsimp only;omega⟩ (by dsimp only;omega)
 ·refine xI (tX<|tX<|bX<|tN<|sQ<|fS fun g2 d F=>?_);obtain ⟨q0,d0,rfl⟩:=zc3 F;exact rG<|lM I<|aT I<|rE<|dR (s':=s) uR<|za8 (.inl I) results124 I ⟨I,b.trans d,acc,F,oM⟩
theorem BL (v:Value)(l:List Cl)(n:Int)(X:ai g v l)(J:aM l) :
  Ctr Tryz.prog E 123 #[.agg #[v],vi n] g s fun r g' s'=>∃ ps:List Pr,s'=rowA em 88 r ps::s∧Le g g'∧ps.length≤1:=by
 obtain ⟨rs,a,d⟩:=X;have Y:=J.1;have W:=d.length;obtain ⟨p,c,rfl⟩:=za4 a;refine zb2 (args:=[.agg #[.slice p rs.length c],vi n]) func123 I ntmps123 (bE I)<|rZ (bW (bO I) fun z=>?_);refine aT I<|rZ<|lU (bj dw I cg I)<|lK (qL (v:=.slice p rs.length c) ei I<|cO 0 I I)<|lU (eN aB I)<|aT I<|sQ<|rZ<|aT I<|bK<|oP (ι:=Nat) (fun k=>[(1,vi n),(2,pp z 0),(5,vi rs.length),(6,vi k)]) (fun _=>g) (fun _=>pt z (bY #[.slice p rs.length c] 29)::s)
  (fun k=>k≤rs.length) (fun k=>rs.length - k) 0 sB rfl rfl (zf7 _) ?_
 rintro k Z;try dsimp only at Z ⊢
 refine sQ<|sW I<|lM I<|yL I<|tZ<|iP I (fun K=>?_) (fun K=>?_)
 ·have f:=za6 a oM;obtain ⟨m,A⟩:=tJ (IntKind.i64.wrap<|k+n) rs.length oM oM;have t:rs[(ci (IntKind.i64.wrap<|k+n) rs.length).toNat]?=some rs[(ci (IntKind.i64.wrap<|k+n) rs.length).toNat]:=bd A;have L:=d.get (bd (show (ci (IntKind.i64.wrap<|k+n) rs.length).toNat<l.length by omega)) t;have M:=J.2 _<|gM (show (ci (IntKind.i64.wrap<|k+n) rs.length).toNat<l.length by omega);generalize l[(ci (IntKind.i64.wrap<|k+n) rs.length).toNat]'oM=cx at *;generalize rs[(ci (IntKind.i64.wrap<|k+n) rs.length).toNat]=x at *;obtain ⟨xi,xd,N,O,P⟩:=x;obtain ⟨f1,f2,B⟩:=L;dsimp only at f1 f2 B;subst f1 f2;refine kP<|tN<|sQ<|bK (lu (ι:=Nat) (fun b=>[(1,vi n),(2,pp z 0),(5,vi rs.length),(6,vi k),(7,pp b 0)]) (fun _=>g) (fun b=>pt b (bY #[vi cx.id,vi cx.dim,.slice N O P] 61)::pt z (bY #[.slice p rs.length c] 29)::s) (fun _=>True) ?_ ?_)
  ·refine C1 [10] ze4 kR ?_;refine iO (i:=0) I kR (bj dw I cg I) dC<|Ie (i:=1) I kR (qL (v:=.slice p rs.length c) ei I<|cO (by exact 0) I I) dC ?_;refine iO (i:=2) I kR (mV I) dC<|iO (i:=3) I kR (mV I) dC<|iO (i:=4) I kR (ze2 I I) dC<|iO (i:=5) I kR (mV I) dC ?_
   repeat' (first
    | (refine SB.o (i:=6) rfl (bt my rfl<|bL E g _ _ rs.length oM) dC (.inr<|by rintro _ _ _ ⟨rfl,rfl,rfl⟩;exact⟨by exact zb9 _,(by exact .cons _<|.refl _)⟩) ?_;rintro _ _ _ ⟨rfl,rfl,rfl⟩;rw[m];refine iO (i:=7) I kD (iA aB ar I I f oM sL) dC ?_;refine Ie (i:=8) I kD (iN dT ar I (za7 a) t) dC ?_)
    | (refine SB.o (i:=6) rfl (bt my rfl<|bL E g _ _ rs.length oM) dC (.inr<|by rintro _ _ _ ⟨rfl,rfl,rfl⟩;exact⟨by exact zb9 _,(by exact .refl _)⟩) ?_;rintro _ _ _ ⟨rfl,rfl,rfl⟩;rw[m];refine iO (i:=7) I kD (iA aB ar I I f oM sL) dC ?_;refine Ie (i:=8) I kD (iN dT ar I (za7 a) t) dC ?_)
    | (refine SB.o (i:=9) rfl (aL zl6) dC (.inr<|by rintro _ _ _ ⟨C,rfl,rfl,rfl⟩;exact⟨by exact zb9 _,(by exact .cons _<|.refl _)⟩) ?_;rintro _ _ _ ⟨C,rfl,rfl,rfl⟩)
    | (refine SB.on (i:=10) I (sK 0 ar I I I I I sB) (.inl dC) ?_;rintro _ _ _ ⟨rfl,rfl⟩)
    | refine zd8 6 9 kD ?_ ?_
    | refine zd7 9 kD ?_
    | refine zd7 10 kD ?_
    | refine zd7 6 kD ?_
    | (refine H5 kD ?_;exact za9 C sB I I trivial))
  rintro C -;try dsimp only
  clear m A;refine rZ<|aT I<|bK<|oP (ι:=Nat) (fun j=>[(1,vi n),(2,pp z 0),(5,vi rs.length),(6,vi k),(7,pp C 0),(8,vi j)]) (fun _=>g) (fun _=>pt C (bY #[vi cx.id,vi cx.dim,.slice N O P] 61)::pt z (bY #[.slice p rs.length c] 29)::s)
   (fun j=>j≤rs.length) (fun j=>rs.length - j) 0 sB rfl rfl (zf7 _) ?_
  rintro j hj;try dsimp only at hj ⊢
  refine sQ<|sW I<|lM I<|yL I<|tZ<|iP I (fun D=>?_) (fun D=>?_)
  ·have F:j<rs.length:=oM;have G:j<l.length:=oM;have Q:rs[((j:Nat):Int).toNat]?=some rs[j]:=bd F;have R:=d.get (bd G)<|bd F;have S:=J.2 _<|gM G;generalize l[j]=cy at *;generalize rs[j]=y at *;obtain ⟨yi,yd,yp,yn,yc⟩:=y;obtain ⟨f1,f2,H⟩:=R;dsimp only at f1 f2 H;subst f1 f2;refine kP (tN<|sQ<|bK<|rZ<|lU (bj dw I cg I)<|lK (qL (v:=.slice p rs.length c) ei I<|cO 1 I I)<|lM I<|lU (iA aB ar I I f oM sL)<|lK (iN dT ar I (za7 a) Q)<|bW (aL zl6) fun b9=>?_);refine oZ (sK 0 ar I I I I I sB)<|tZ<|BY 60 (decide (cx.id≠cy.id)&&decide (cx.dim=cy.dim)&&decide (cx.dim>0)&&decide (mu cx.sides=mu cy.sides)) ?_ ?_
   ·refine rG<|lU (bj ap I zT3 I)<|lK (qL (v:=vi cx.id) iT3 I<|cO 1 I I)<|lU (bj ap I zT3 I)<|lK (qL (v:=vi cy.id) iT3 I<|cO 0 I I)<|lU (nQ I I)<|lM I<|sP ?_ ?_
    ·intro T;refine lY I I I (bj ap I zT3 I)<|lR (gT I I I dC) (qL (v:=vi cx.dim) iT3 I<|cO 1 I I) dC<|lY I I I (bj ap I zT3 I)<|lR (gT I I I dC) (qL (v:=vi cy.dim) iT3 I<|cO 0 I I) dC<|lY I I I (eQ I I)<|yP I<|lM I<|sP ?_ ?_
     ·intro U;refine lY I I I (bj ap I zT3 I)<|lR (gT I I I dC) (qL (v:=vi cx.dim) iT3 I<|cO 1 I I) dC<|lY I I I (gR I I)<|yP I<|lM I<|sP ?_ ?_
      ·intro V;refine lY I I I (bj ap I aI I)<|lR (gT I I I dC) (qL (v:=.slice N O P) bg I<|cO 1 I I) dC<|lY I I I (bj ap I aI I)<|lR (gT I I I dC) (qL (v:=.slice yp yn yc) bg I<|cO 0 I I) dC<|IQ (gT I I I dC) (bt call183 I<|lj E g _ _ _ _ _ B H M S) dC ?_;rintro _ _ _ ⟨rfl,rfl,rfl⟩;exact yP I<|cp<|zb1 (by (simp_all[aU];done)) mI
      ·intro V;exact yA I<|yA I<|yA I<|yA I<|yA I<|yF I<|cp<|zb1 (by (simp_all[aU];omega)) mI
     ·intro U;exact yA I<|yA I<|yA I<|yF I<|lM I<|yA I<|yA I<|yA I<|yA I<|yA I<|yF I<|cp<|zb1 (by (simp_all[aU];done)) mI
    ·intro T;exact yA I<|yA I<|yA I<|yA I<|yA I<|yF I<|lM I<|yA I<|yA I<|yA I<|yF I<|lM I<|yA I<|yA I<|yA I<|yA I<|yA I<|yF I<|cp<|zb1 (by (simp_all[aU];done)) mI
   refine iQ I (fun hq=>?_) (fun hq=>?_)
   ·refine rZ<|lU (bj ap I zT3 I)<|lK (qL (v:=vi cx.id) iT3 I<|cO 1 I I)<|lU (bj ap I zT3 I)<|lK (qL (v:=vi cy.id) iT3 I<|cO 0 I I)<|lU (za3 I<|build88 _ _)<|lW (bS sty46 I I I (ab ⟨I,trivial⟩) dC) ?_;rintro _ _ _ ⟨a0,rfl,rfl,rfl⟩;refine SL.to (fun w hw=>Ig (e:=em) (l:=[(cx.id,cy.id)]) (n:=0) hw I I dC) ?_;exact aT I<|rE<|bR<|tR<|tR<|bR<|bR<|tR<|tR<|bR<|tR<|dR (.cons_cons _<|.cons _<|.cons _<|.cons _<|.refl s)<|za8 (.inl I) results123 I ⟨_,I,zb9 _,by simp⟩
   ·exact kP<|bN<|tN<|rG<|lM I<|yD I<|lA I<|cp<|dR (.cons _<|.refl _)<|ct (j+1) sB I I oM oM
  ·exact xI<|tX<|tX<|bX<|bN<|tN<|rG<|lM I<|yD I<|lA I<|cp<|dR (.cons _<|.refl _)<|ct (k+1) sB I I oM oM
 ·exact xI<|tX<|tX<|bX<|tN<|rZ<|aT I<|rE<|dR (s':=s) (.cons _<|.refl _)<|I7 88 2<|za8 (.inl I) results123 I ⟨[],I,zb9 _,by simp⟩
theorem vT (a:aM l)(id:Int):((findC l id).getD aJ).sides.length<1099511627776:=by
 unfold findC;cases h:(am l).find? (fun c=>decide<|c.id=id) with
 | none=>simp[aJ]
 | some c=>exact (bG a).2 c<|zk7 h
theorem Tryz.bA48 (a:Int)(b:Int)  (w:World):(Instr.build 48 #[(0,vi a),(1,vi b)]).run Tryz.prog w = .ok (.agg #[vi a,vi b,vi 0,vi 0,vi 0,.slice none 0 0,.slice none 0 0]) w:=by
 have c:(vi a).cells = #[vi a]:=rfl;have d:(vi b).cells = #[vi b]:=rfl;simp[Instr.build,Instr.fill,c,d];rfl
theorem Tryz.bB48 (a:Int)(b:Int)(d:Int)(q:Option Addr)(c e:Nat)(w:World):(Instr.build 48 #[(0,vi a),(1,vi b),(2,vi d),(5,.slice q c e)]).run Tryz.prog w = .ok (.agg #[vi a,vi b,vi d,vi 0,vi 0,.slice q c e,.slice none 0 0]) w:=by
 have f:(vi a).cells = #[vi a]:=rfl;have g:(vi b).cells = #[vi b]:=rfl;have i:(vi d).cells = #[vi d]:=rfl;have j:(Value.slice q c e).cells = #[.slice q c e]:=rfl;simp[Instr.build,Instr.fill,f,g,i,j];rfl
theorem Tryz.bC48 (a:Int)(b:Int)(d:Int)(e:Int)  (w:World):(Instr.build 48 #[(0,vi a),(1,vi b),(3,vi d),(4,vi e)]).run Tryz.prog w = .ok (.agg #[vi a,vi b,vi 0,vi d,vi e,.slice none 0 0,.slice none 0 0]) w:=by
 have c:(vi a).cells = #[vi a]:=rfl;have f:(vi b).cells = #[vi b]:=rfl;have g:(vi d).cells = #[vi d]:=rfl;have i:(vi e).cells = #[vi e]:=rfl;simp[Instr.build,Instr.fill,c,f,g,i];rfl
theorem Tryz.bD48 (a:Int)(q:Option Addr)(b c:Nat)(w:World):(Instr.build 48 #[(0,vi a),(6,.slice q b c)]).run Tryz.prog w = .ok (.agg #[vi a,vi 0,vi 0,vi 0,vi 0,.slice none 0 0,.slice q b c]) w:=by
 have d:(vi a).cells = #[vi a]:=rfl;have e:(Value.slice q b c).cells = #[.slice q b c]:=rfl;simp[Instr.build,Instr.fill,d,e];rfl
theorem Tryz.bE48 (a:Int)(b:Int)(d:Int)  (w:World):(Instr.build 48 #[(0,vi a),(1,vi b),(4,vi d)]).run Tryz.prog w = .ok (.agg #[vi a,vi b,vi 0,vi 0,vi d,.slice none 0 0,.slice none 0 0]) w:=by
 have c:(vi a).cells = #[vi a]:=rfl;have e:(vi b).cells = #[vi b]:=rfl;have f:(vi d).cells = #[vi d]:=rfl;simp[Instr.build,Instr.fill,c,e,f];rfl
theorem Tryz.bF48 (a:Int)(b:Int)(d:Int)(e:Int)(h:Int)(q:Option Addr)(c f:Nat)(r:Option Addr)(g rc:Nat)(w:World):(Instr.build 48 #[(0,vi a),(1,vi b),(2,vi d),(3,vi e),(4,vi h),(5,.slice q c f),(6,.slice r g rc)]).run Tryz.prog w = .ok (.agg #[vi a,vi b,vi d,vi e,vi h,.slice q c f,.slice r g rc]) w:=by
 have i:(vi a).cells = #[vi a]:=rfl;have j:(vi b).cells = #[vi b]:=rfl;have k:(vi d).cells = #[vi d]:=rfl;have l:(vi e).cells = #[vi e]:=rfl;have m:(vi h).cells = #[vi h]:=rfl;have n:(Value.slice q c f).cells = #[.slice q c f]:=rfl;have o:(Value.slice r g rc).cells = #[.slice r g rc]:=rfl;simp[Instr.build,Instr.fill,i,j,k,l,m,n,o];rfl
theorem mZ (v:Value)(l:List Cl)(k0 f t F:Int)(hv:ai g v l)(hf:aM l) :
  Ctr Tryz.prog E 72 #[.agg #[vi k0,vi f,vi t,vi F],.agg #[v]] g s fun r g' s'=>s=s'∧Le g g'∧∃ e,EdR g' r e∧e.sides.length<1099511627776∧e.pairs.length≤3∧((ci k0 10=0∨ci k0 10=1∨ci k0 10=2)→e.kind=1)∧((∀ c∈l,bh c.id)→bh f→bh t→bh F→(e.kind=1→bh e.cell)∧(e.kind=3→bh e.new∧bh e.other)):=by
 have q1:=hv;obtain ⟨rs,b1,b5⟩:=hv;have d5:=b5.length;have q2:=hf.1;obtain ⟨p,c,rfl⟩:=za4 b1;have d9:∀ d,(Eg l d).length<1099511627776:=fun d=>by
  have y:(Eg l d).length≤(am l).length:=by unfold Eg;rw[ze7];exact zc6 _ _
  have h2:=(bG hf).1;omega
 have l4:(xS l).length<1099511627776:=by
  have y:(xS l).length≤(am l).length:=by unfold xS;rw[ze7];exact zc6 _ _
  have h2:=(bG hf).1;omega
 have c3:=d9 0;have c9:=d9 1;rw[← d5] at b1 ⊢;have m2:ai g (.slice p l.length c) l:=⟨rs,b1,b5⟩;refine zb2 (args:=[.agg #[vi k0,vi f,vi t,vi F],.agg #[.slice p l.length c]]) func72 I ntmps72 (bE I)<|rZ (bW (bO I) fun J=>?_);refine bW (bO I) fun O=>bW (aL zl2) fun C=>tZ<|rZ<|aT I<|sQ<|rZ<|aT I<|bK<|zb6 3 1<|oP (ι:=Nat×Value×List Int) (fun i=>[(2,pp J 0),(3,pp O 0),(4,pp C 0),(5,i.2.1),(6,vi i.1)]) (fun _=>g) (fun i=>rowA encInt 3 i.2.1 i.2.2::pt C (bY #[vi 0,vi 0,vi 0,vi 0,vi 0,.slice none 0 0,.slice none 0 0] 48)::pt O (bY #[.slice p l.length c] 29)::pt J (bY #[vi k0,vi f,vi t,vi F] 113)::s)
  (fun i=>i.1≤l.length∧i.2.2.length=i.1∧∀ z∈i.2.2,∃ c∈l,c.id=z) (fun i=>l.length - i.1) (0,.slice none 0 0,[]) sB rfl rfl ⟨zf7 _,rfl,by simp⟩ ?_
 rintro ⟨k,ov,acc⟩ ⟨hk,e0,b6⟩;dsimp only at hk e0 b6 ⊢;refine sQ<|sW I<|lU (bj dw I cg I)<|lK (qL (v:=.slice p l.length c) ei I<|cO 2 I I)<|lU (eN aB I)<|yL I<|tZ<|iP I (fun e4=>?_) (fun e4=>?_)
 ·have e9:k<rs.length:=oM;have f7:=za6 b1 oM;have m3:rs[((k:Nat):Int).toNat]?=some rs[k]:=bd e9;have m4:∃ c∈l,c.id=rs[k].id:=⟨l[k]'oM,gM _,((b5.get (bd oM)<|bd e9).1).symm⟩;generalize rs[k]=x at *;refine kP<|tN<|sQ<|bK<|rG<|lM I<|lU (bj dw I cg I)<|lK (qL (v:=.slice p l.length c) ei I<|cO 2 I I)<|lM I<|lU (iA aB ar I I f7 oM sL)<|lU (fC ap I zT3 I f7)<|lK (aZ (e:=encCell) (o:=0) (u:=vi x.id) iT3 I (za7 b1) m3 I)<|lW (bS sty43 I I I (ab ⟨I,trivial⟩) dC) ?_;rintro _ _ _ ⟨q3,rfl,rfl,rfl⟩;refine lW (aP (e:=encInt) (l:=acc) 0 x.id sty43 I I I I I oM oM) ?_;rintro ov' _ _ ⟨rfl,rfl⟩;refine lA I<|cp<|bN<|tN<|rG<|lM I<|yD I<|lA I<|cp ?_;exact ct (k+1,ov',acc++[x.id]) sB I I ⟨by dsimp only;omega,by dsimp only;rw[ze6,ze8];omega,fun z hz=>by
   dsimp only at hz
   rcases zf4.1 hz with h | h
   ·exact b6 z h
   ·simp at h;rw[h];exact m4⟩ (by dsimp only;omega)
 clear e4;have b7:acc.length<1099511627776:=oM;clear hk e0;refine xI (tX<|tX<|bX<|tN<|sQ<|fS fun g1 c5 hI=>?_);obtain ⟨qI,dI,rfl⟩:=zc3 hI;have hI:dA g1 (.slice qI acc.length dI) acc:=hI;have f8:=m2.mono c5;refine rG<|lK (qV 1 aj ae I I I)<|lW (bt call119 I<|qA E g1 _ _ l 0 f8 hf) ?_;rintro _ g2 _ ⟨rfl,b8,hV⟩;obtain ⟨pV,cV,rfl⟩:=za4 hV;have g9:=f8.mono b8;have hI:=za5 hI b8;refine aT I<|rZ<|lK (qV 1 aj ae I I I)<|lW (bt call119 I<|qA E g2 _ _ l 1 g9 hf) ?_;rintro _ g3 _ ⟨rfl,a5,hW⟩;obtain ⟨pW,cW,rfl⟩:=za4 hW;have Z:=g9.mono a5;have hI:=za5 hI a5;have hV:=za5 hV a5;generalize Eg l 0=V at *;generalize Eg l 1=W at *;refine aT I<|rZ<|lK (qV 1 aj ae I I I)<|lW (bt call120 I<|wW E g3 _ _ l Z hf) ?_;rintro _ _ _ ⟨rfl,rfl,n0,rfl,n2⟩;have d0:=c5.trans<|b8.trans a5;refine aT I<|lu (ι:=Int) (fun n=>[(2,pp J 0),(3,pp O 0),(4,pp C 0),(5,.slice qI acc.length dI),(7,.slice pV V.length cV),(8,.slice pW W.length cW),(9,vi n)]) (fun _=>g3) (fun _=>pt C (bY #[vi 0,vi 0,vi 0,vi 0,vi 0,.slice none 0 0,.slice none 0 0] 48)::pt O (bY #[.slice p l.length c] 29)::pt J (bY #[vi k0,vi f,vi t,vi F] 113)::s) (fun n=>(∀ c∈l,bh c.id)→bh n) ?_ ?_
 ·refine rZ<|lU (bj ek I zT3 I)<|lK (qL (v:=vi F) iT3 I<|cO 2 I I)<|lU (zd9 I I dC)<|yE I<|tZ<|iP I (fun hz=>?_) (fun hz=>?_)
  ·refine rG<|lM I<|lU (bj ek I zT3 I)<|lK (qL (v:=vi F) iT3 I<|cO 2 I I)<|lU (IZ I I dC)<|lW (bt call121 I<|qC E g3 _ _ acc _ hI b7) ?_;rintro _ _ _ ⟨rfl,rfl,n1,rfl,n3⟩;exact lA I<|cp<|za9 n1 sB I I fun h=>by
    rcases n3 with e | e
    ·try dsimp only
     rw[e];unfold bh;omega
    ·obtain ⟨c,hc,e2⟩:=b6 _ e;try dsimp only
     rw[← e2];exact h c hc
  ·exact kP<|za9 n0 sB I I fun _=>n2
 rintro n L;try dsimp only
 refine lu (ι:=Nat×PH×Cl×Rc) (fun i=>[(2,pp J 0),(3,pp O 0),(4,pp C 0),(5,.slice qI acc.length dI),(7,.slice pV V.length cV),(8,.slice pW W.length cW),(9,vi n),(10,pp i.1 0)]) (fun i=>i.2.1) (fun i=>pt i.1 (bY #[vi i.2.2.2.id,vi i.2.2.2.dim,.slice i.2.2.2.sv.p i.2.2.2.sv.n i.2.2.2.sv.c] 61)::pt C (bY #[vi 0,vi 0,vi 0,vi 0,vi 0,.slice none 0 0,.slice none 0 0] 48)::pt O (bY #[.slice p l.length c] 29)::pt J (bY #[vi k0,vi f,vi t,vi F] 113)::s) (fun i=>Le g3 i.2.1∧an i.2.1 i.2.2.1 i.2.2.2∧i.2.2.1.sides.length<1099511627776) ?_ ?_
 ·refine C1 [10] ze4 kR ?_;refine Ie (i:=0) I kR (qV 1 aj ae I I I) dC<|iO (i:=1) I kR (mV I) dC<|iO (i:=2) I kR (bj ek I zT3 I) dC<|Ie (i:=3) I kR (qL (v:=vi f) iT3 I<|cO 2 I I) dC ?_
  repeat' (first
   | (refine SB.o (i:=4) rfl (bt call121 rfl<|eh E g3 _ _ acc f hI b7) dC (.inr<|by rintro _ _ _ ⟨rfl,rfl,m1,rfl⟩;exact⟨by exact zb9 _,(by exact .cons _<|.refl _)⟩) ?_;rintro _ _ _ ⟨rfl,rfl,m1,rfl⟩)
   | (refine SB.o (i:=4) rfl (bt call121 rfl<|eh E g3 _ _ acc f hI b7) dC (.inr<|by rintro _ _ _ ⟨rfl,rfl,m1,rfl⟩;exact⟨by exact zb9 _,(by exact .refl _)⟩) ?_;rintro _ _ _ ⟨rfl,rfl,m1,rfl⟩)
   | (refine SB.o (i:=5) rfl (bt call42 rfl<|aK E g3 _ _ l m1 Z hf) dC (.inr<|by rintro _ gF _ ⟨rfl,D,rF,rfl,Q⟩;exact⟨by assumption,(by exact .cons _<|.refl _)⟩) ?_;rintro _ gF _ ⟨rfl,D,rF,rfl,Q⟩;refine iO (i:=6) I kD (mV I) dC ?_;refine iO (i:=7) I kD (xT I I) dC ?_;refine iO (i:=8) I kD (xT I I) dC ?_)
   | (refine SB.o (i:=5) rfl (bt call42 rfl<|aK E g3 _ _ l m1 Z hf) dC (.inr<|by rintro _ gF _ ⟨rfl,D,rF,rfl,Q⟩;exact⟨by assumption,(by exact .refl _)⟩) ?_;rintro _ gF _ ⟨rfl,D,rF,rfl,Q⟩;refine iO (i:=6) I kD (mV I) dC ?_;refine iO (i:=7) I kD (xT I I) dC ?_;refine iO (i:=8) I kD (xT I I) dC ?_)
   | (refine SB.o (i:=9) rfl (aL zl6) dC (.inr<|by rintro _ _ _ ⟨bF,rfl,rfl,rfl⟩;exact⟨by exact zb9 _,(by exact .cons _<|.refl _)⟩) ?_;rintro _ _ _ ⟨bF,rfl,rfl,rfl⟩)
   | (refine SB.o (i:=9) rfl (aL zl6) dC (.inr<|by rintro _ _ _ ⟨bF,rfl,rfl,rfl⟩;exact⟨by assumption,(by exact .cons _<|.refl _)⟩) ?_;rintro _ _ _ ⟨bF,rfl,rfl,rfl⟩)
   | (refine SB.on (i:=10) I (sK 0 ar I I I I I sB) (.inl dC) ?_;rintro _ _ _ ⟨rfl,rfl⟩;refine iO (i:=11) I kD (aS I) dC ?_)
   | refine zd8 4 9 kD ?_ ?_
   | refine zd8 5 9 kD ?_ ?_
   | refine zd7 9 kD ?_
   | refine zd7 10 kD ?_
   | refine zd7 5 kD ?_
   | refine zd7 4 kD ?_
   | (refine H5 kD ?_;exact za9 (bF,gF,(findC l m1).getD aJ,rF) sB I I ⟨D,Q,vT hf m1⟩))
 rintro ⟨B,g4,X,⟨N,R,xp,xn,xc⟩⟩ ⟨a9,⟨-,-,d1⟩,n4⟩;dsimp only at a9 d1 n4 ⊢;have n5:xn=X.sides.length:=zc2 d1;subst n5;have Z:=Z.mono a9;have hI:=za5 hI a9;refine lu (ι:=Nat×PH×Cl×Rc) (fun i=>[(2,pp J 0),(3,pp O 0),(4,pp C 0),(5,.slice qI acc.length dI),(7,.slice pV V.length cV),(8,.slice pW W.length cW),(9,vi n),(10,pp B 0),(12,pp i.1 0)]) (fun i=>i.2.1) (fun i=>pt i.1 (bY #[vi i.2.2.2.id,vi i.2.2.2.dim,.slice i.2.2.2.sv.p i.2.2.2.sv.n i.2.2.2.sv.c] 61)::pt B (bY #[vi N,vi R,.slice xp X.sides.length xc] 61)::pt C (bY #[vi 0,vi 0,vi 0,vi 0,vi 0,.slice none 0 0,.slice none 0 0] 48)::pt O (bY #[.slice p l.length c] 29)::pt J (bY #[vi k0,vi f,vi t,vi F] 113)::s) (fun i=>Le g4 i.2.1∧an i.2.1 i.2.2.1 i.2.2.2∧i.2.2.1.sides.length<1099511627776) ?_ ?_
 ·refine C1 [10] ze4 kR ?_;refine Ie (i:=0) I kR (qV 2 aj ae I I I) dC<|iO (i:=1) I kR (mV I) dC<|iO (i:=2) I kR (bj ek I zT3 I) dC<|Ie (i:=3) I kR (qL (v:=vi t) iT3 I<|cO 3 I I) dC ?_
  repeat' (first
   | (refine SB.o (i:=4) rfl (bt call121 rfl<|eh E g4 _ _ acc t hI b7) dC (.inr<|by rintro _ _ _ ⟨rfl,rfl,m1,rfl⟩;exact⟨by exact zb9 _,(by exact .cons _<|.refl _)⟩) ?_;rintro _ _ _ ⟨rfl,rfl,m1,rfl⟩)
   | (refine SB.o (i:=4) rfl (bt call121 rfl<|eh E g4 _ _ acc t hI b7) dC (.inr<|by rintro _ _ _ ⟨rfl,rfl,m1,rfl⟩;exact⟨by exact zb9 _,(by exact .refl _)⟩) ?_;rintro _ _ _ ⟨rfl,rfl,m1,rfl⟩)
   | (refine SB.o (i:=5) rfl (bt call42 rfl<|aK E g4 _ _ l m1 Z hf) dC (.inr<|by rintro _ gF _ ⟨rfl,D,rF,rfl,Q⟩;exact⟨by assumption,(by exact .cons _<|.refl _)⟩) ?_;rintro _ gF _ ⟨rfl,D,rF,rfl,Q⟩;refine iO (i:=6) I kD (mV I) dC ?_;refine iO (i:=7) I kD (xT I I) dC ?_;refine iO (i:=8) I kD (xT I I) dC ?_)
   | (refine SB.o (i:=5) rfl (bt call42 rfl<|aK E g4 _ _ l m1 Z hf) dC (.inr<|by rintro _ gF _ ⟨rfl,D,rF,rfl,Q⟩;exact⟨by assumption,(by exact .refl _)⟩) ?_;rintro _ gF _ ⟨rfl,D,rF,rfl,Q⟩;refine iO (i:=6) I kD (mV I) dC ?_;refine iO (i:=7) I kD (xT I I) dC ?_;refine iO (i:=8) I kD (xT I I) dC ?_)
   | (refine SB.o (i:=9) rfl (aL zl6) dC (.inr<|by rintro _ _ _ ⟨bF,rfl,rfl,rfl⟩;exact⟨by exact zb9 _,(by exact .cons _<|.refl _)⟩) ?_;rintro _ _ _ ⟨bF,rfl,rfl,rfl⟩)
   | (refine SB.o (i:=9) rfl (aL zl6) dC (.inr<|by rintro _ _ _ ⟨bF,rfl,rfl,rfl⟩;exact⟨by assumption,(by exact .cons _<|.refl _)⟩) ?_;rintro _ _ _ ⟨bF,rfl,rfl,rfl⟩)
   | (refine SB.on (i:=10) I (sK 0 ar I I I I I sB) (.inl dC) ?_;rintro _ _ _ ⟨rfl,rfl⟩;refine iO (i:=11) I kD (aS I) dC ?_)
   | refine zd8 4 9 kD ?_ ?_
   | refine zd8 5 9 kD ?_ ?_
   | refine zd7 9 kD ?_
   | refine zd7 10 kD ?_
   | refine zd7 5 kD ?_
   | refine zd7 4 kD ?_
   | (refine H5 kD ?_;exact za9 (bF,gF,(findC l m1).getD aJ,rF) sB I I ⟨D,Q,vT hf m1⟩))
 rintro ⟨G,g5,Y,⟨T,yd,yp,yn,yc⟩⟩ ⟨a0,⟨-,-,h6⟩,n6⟩;dsimp only at a0 h6 n6 ⊢;have n7:yn=Y.sides.length:=zc2 h6;subst n7;have d2:=Z.mono a0;have q4:=za5 hI a0;have a3:=a9.trans a0;have b9:=za5 hV a3;have h9:=za5 hW a3;have c0:=za5 d1 a0;have m:=d0.trans a3;refine sQ<|rZ<|lU (bj ek I zT3 I)<|lK (qL (v:=vi k0) iT3 I<|cO 4 I I)<|lW (bt my I<|bL E g5 _ k0 10 dC) ?_;rintro _ _ _ ⟨rfl,rfl,rfl⟩;generalize ci k0 10=kd at *;refine tZ<|bK<|rZ<|yE I<|aT I<|iP I (fun h0=>?_) (fun h0=>?_)
 ·refine sW I<|lU (za3 I<|bA48 _ _)<|oZ (sK 2 dY rfl rfl rfl rfl rfl<|by (repeat' (first | exact trivial | refine⟨by rfl,?_⟩))) ?_;refine tZ<|rE<|bR<|tR ?_;exact kn 2 s (.inl I) results72 I jS dY I I uR ⟨I,m,⟨1,n,0,0,0,[],[]⟩,⟨_,_,I,zc1 _ _,zc1 _ _⟩,by simp,by simp,fun _=>I,fun h _ _ _=>⟨fun _=>L h,fun y=>absurd (show (1:Int)=3 from y) dC⟩⟩
 ·refine rZ<|yE I<|aT I<|iP I (fun y=>?_) (fun y=>?_)
  ·refine sQ<|dW [13] [(0,2),(1,2),(2,2),(3,1),(6,2),(7,2),(8,1),(4,0),(5,2),(9,0),(10,2),(11,0),(12,2),(13,0)] ze4 kR<|yM I<|yM I<|pU I (bj ek I zT3 I)<|gB I (qL (v:=vi f) iT3 I<|cO 4 I I)<|yM I<|pU I (bj ek I zT3 I)<|gB I (qL (v:=vi t) iT3 I<|cO 4 I I)<|mf I (bt call121 I<|eh E g5 _ _ V f b9 c3) dC (.inr iR) ?_;rintro _ _ _ ⟨rfl,rfl,U,rfl⟩;refine pU I (za3 I<|buildS87 _ _)<|mf I (bt call121 I<|eh E g5 _ _ V t b9 c3) dC (.inr iR) ?_;rintro _ _ _ ⟨rfl,rfl,a2,rfl⟩;refine pU I (za3 I<|buildS87 _ _)<|mf I (bS sty45 I I I (ab sB) dC) dC (.inr iR) ?_;rintro _ _ _ ⟨d3,rfl,rfl,rfl⟩;refine I5 fun g6 b c1=>?_;have a4:SlA encSide g6 (.slice (some ⟨d3,0,none⟩) 2 2) [⟨U,1⟩,⟨a2,-1⟩]:=kb c1 rfl rfl;refine pU I (za3 I<|bB48 _ _ _ _ _ _)<|H8 rfl (sK 2 dY rfl rfl rfl rfl rfl<|by (repeat' (first | exact trivial | refine⟨by rfl,?_⟩))) (.inl dC) ?_;rintro _ _ _ ⟨rfl,rfl⟩;refine du<|tN<|rE<|bR<|tR ?_;exact kn 2 s (.inl I) results72 I jS dY I I uR ⟨I,m.trans b,⟨1,n,1,0,0,[⟨U,1⟩,⟨a2,-1⟩],[]⟩,⟨_,_,I,a4,zc1 _ _⟩,by simp,by simp,fun _=>I,fun h _ _ _=>⟨fun _=>L h,fun y=>absurd (show (1:Int)=3 from y) dC⟩⟩
  ·refine rZ<|yE I<|aT I<|iP I (fun h2=>?_) (fun h2=>?_)
   ·refine lu (ι:=Nat×Option Addr×Nat) (fun i=>[(2,pp J 0),(4,pp C 0),(14,pp i.1 0)]) (fun _=>g5) (fun i=>pt i.1 (bY #[vi 1,vi n,vi R,vi 0,vi 0,.slice i.2.1 X.sides.length i.2.2,.slice none 0 0] 48)::rowA encSide 87 (.slice i.2.1 X.sides.length i.2.2) X.sides::pt G (bY #[vi T,vi yd,.slice yp Y.sides.length yc] 61)::pt B (bY #[vi N,vi R,.slice xp X.sides.length xc] 61)::pt C (bY #[vi 0,vi 0,vi 0,vi 0,vi 0,.slice none 0 0,.slice none 0 0] 48)::pt O (bY #[.slice p l.length c] 29)::pt J (bY #[vi k0,vi f,vi t,vi F] 113)::s) (fun _=>True) ?_ ?_
    ·refine C1 [9] ze4 kR ?_;refine iO (i:=0) I kR (mV I) dC<|iO (i:=1) I kR (bj ap I zT3 I) dC<|Ie (i:=2) I kR (qL (v:=vi R) iT3 I<|cO (by exact 1) I I) dC ?_;refine iO (i:=4) I kR (bj ap I aI I) dC<|Ie (i:=5) I kR (qL (v:=.slice xp X.sides.length xc) bg I<|cO (by exact 1) I I) dC (zd8 3 8 kR ?_ ?_)
     ·refine SB.o (i:=3) I (bS sty45 I I I (ab trivial) dC) dC (.inr iR) ?_;rintro _ _ _ ⟨n8,rfl,rfl,rfl⟩;refine Jm (zj2 _ _) (zd8 6 8 kR ?_ ?_)
      ·refine SB.o (i:=6) I (Jq (e:=encSide) sty45 I I c0 oM oM) dC (.inr iR) ?_;rintro v98 _ _ ⟨rfl,rfl⟩;refine SX.facts fun ⟨w0,A⟩=>?_;obtain ⟨q8,d8,rfl⟩:=ag (e:=encSide) (l:=X.sides) (i:=0) A rfl;clear A w0
       first | refine I9 (fun w hw=>IW hw<|zk2 (pt H _) _ _) ?_ | skip
       refine iO (i:=7) I kR (za3 I<|bB48 _ _ _ _ _ _) dC (zd7 8 kR ?_)
       ·refine SB.o (i:=8) I (aL zl2) dC (.inr iR) ?_;rintro _ _ _ ⟨H,rfl,rfl,rfl⟩;refine zd7 9 kR ?_
        ·refine SB.on (i:=9) rfl (sK 0 dY rfl rfl rfl rfl rfl<|by (repeat' (first | exact trivial | refine⟨by rfl,?_⟩))) (.inl dC) ?_;rintro _ _ _ ⟨rfl,rfl⟩;refine H5 kR ?_;exact za9 (H,q8,d8) sB I I trivial
      ·refine SB.o (i:=8) I (aL zl2) dC (.inr iR) ?_;rintro _ _ _ ⟨H,rfl,rfl,rfl⟩;refine zd7 6 kR ?_
       ·refine SB.o (i:=6) I (Jq (e:=encSide) sty45 I I c0 oM oM) dC (.inr iR) ?_;rintro v98 _ _ ⟨rfl,rfl⟩;refine SX.facts fun ⟨w0,A⟩=>?_;obtain ⟨q8,d8,rfl⟩:=ag (e:=encSide) (l:=X.sides) (i:=0) A rfl;clear A w0
        first | refine I9 (fun w hw=>IW hw<|zk2 (pt H _) _ _) ?_ | skip
        refine iO (i:=7) I kR (za3 I<|bB48 _ _ _ _ _ _) dC (zd7 9 kR ?_)
        ·refine SB.on (i:=9) rfl (sK 0 dY rfl rfl rfl rfl rfl<|by (repeat' (first | exact trivial | refine⟨by rfl,?_⟩))) (.inl dC) ?_;rintro _ _ _ ⟨rfl,rfl⟩;refine H5 kR ?_;exact za9 (H,q8,d8) sB I I trivial
     ·refine SB.o (i:=8) I (aL zl2) dC (.inr iR) ?_;rintro _ _ _ ⟨H,rfl,rfl,rfl⟩;refine zd7 3 kR ?_
      ·refine SB.o (i:=3) I (bS sty45 I I I (ab trivial) dC) dC (.inr iR) ?_;rintro _ _ _ ⟨n8,rfl,rfl,rfl⟩;refine Jm (zj2 _ _) (zd7 6 kR ?_)
       ·refine SB.o (i:=6) I (Jq (e:=encSide) sty45 I I c0 oM oM) dC (.inr iR) ?_;rintro v98 _ _ ⟨rfl,rfl⟩;refine SX.facts fun ⟨w0,A⟩=>?_;obtain ⟨q8,d8,rfl⟩:=ag (e:=encSide) (l:=X.sides) (i:=0) A rfl;clear A w0
        first | refine I9 (fun w hw=>IW hw<|zk2 (pt H _) _ _) ?_ | skip
        refine iO (i:=7) I kR (za3 I<|bB48 _ _ _ _ _ _) dC (zd7 9 kR ?_)
        ·refine SB.on (i:=9) rfl (sK 0 dY rfl rfl rfl rfl rfl<|by (repeat' (first | exact trivial | refine⟨by rfl,?_⟩))) (.inl dC) ?_;rintro _ _ _ ⟨rfl,rfl⟩;refine H5 kR ?_;exact za9 (H,q8,d8) sB I I trivial
    rintro ⟨H,q8,d8⟩ -;try dsimp only
    refine lu (ι:=Int) (fun _=>[(2,pp J 0),(4,pp C 0),(14,pp H 0)]) (fun _=>g5) (fun d=>pt H (bY #[vi 1,vi n,vi d,vi 0,vi 0,.slice q8 X.sides.length d8,.slice none 0 0] 48)::rowA encSide 87 (.slice q8 X.sides.length d8) X.sides::pt G (bY #[vi T,vi yd,.slice yp Y.sides.length yc] 61)::pt B (bY #[vi N,vi R,.slice xp X.sides.length xc] 61)::pt C (bY #[vi 0,vi 0,vi 0,vi 0,vi 0,.slice none 0 0,.slice none 0 0] 48)::pt O (bY #[.slice p l.length c] 29)::pt J (bY #[vi k0,vi f,vi t,vi F] 113)::s) (fun _=>True) ?_ ?_
    ·refine rZ<|lU (bj ek I zT3 I)<|lK (qL (v:=vi t) iT3 I<|cO 6 I I)<|lU (zd9 I I dC)<|yE I<|tZ<|iP I (fun hz=>?_) (fun hz=>?_)
     ·refine rG<|lU (bj aO rfl zT3 rfl)<|lK (qL (v:=vi R) iT3 rfl<|cO 0 rfl rfl)<|lU (ze2 rfl rfl)<|lU (bj aO rfl zT3 rfl)<|oZ (oi 0 zT3 rfl rfl rfl rfl (bE rfl)<|by rfl) ?_;refine cp ?_;exact za9 (IntKind.i64.wrap<|R+1) sB I I trivial
     ·exact kP<|za9 R sB I I trivial
    rintro ed -;try dsimp only
    refine lu (ι:=List ak) (fun _=>[(4,pp C 0),(14,pp H 0)]) (fun _=>g5) (fun S=>pt H (bY #[vi 1,vi n,vi ed,vi 0,vi 0,.slice q8 X.sides.length d8,.slice none 0 0] 48)::rowA encSide 87 (.slice q8 X.sides.length d8) S::pt G (bY #[vi T,vi yd,.slice yp Y.sides.length yc] 61)::pt B (bY #[vi N,vi R,.slice xp X.sides.length xc] 61)::pt C (bY #[vi 0,vi 0,vi 0,vi 0,vi 0,.slice none 0 0,.slice none 0 0] 48)::pt O (bY #[.slice p l.length c] 29)::pt J (bY #[vi k0,vi f,vi t,vi F] 113)::s) (fun S=>S.length=X.sides.length) ?_ ?_
    ·refine BY 117 (decide (t.tmod 9=4)&&decide (0<X.sides.length)) ?_ ?_
     ·refine rG<|lU (bj ek I zT3 I)<|lK (qL (v:=vi t) iT3 I<|cO 6 I I)<|lU (zd9 I I dC)<|yE I<|lM I<|sP ?_ ?_
      ·intro i0;exact lY I I I (bj aO I aI I)<|lR (gT I I I dC) (qL (v:=.slice q8 X.sides.length d8) bg I<|cO 0 I I) dC<|lY I I I (eN aW I)<|lY I I I (gR I I)<|yP I<|cp<|zb1 (by (simp_all[aU];done)) mI
      ·intro i0;exact yA I<|yA I<|yA I<|yA I<|yF I<|cp<|zb1 (by (simp_all[aU];done)) mI
     refine iQ I (fun hq=>?_) (fun hq=>?_)
     ·simp only[zj4,zj7] at hq;have i1:X.sides[0]?=some (X.sides[0]'hq.2):=bd hq.2;generalize X.sides[0]'hq.2=x0 at *;refine IT fun ⟨w0,A⟩=>?_;obtain ⟨bu,cap,i2⟩:=bI (e:=encSide) (l:=X.sides) (i:=1) A rfl oM;obtain ⟨rfl,rfl⟩:q8=some ⟨bu,0,none⟩∧d8=cap:=by injection i2 with y _ h2;exact⟨y,h2⟩
      clear A w0 i2;refine dW [10] [(0,2),(1,1),(2,2),(3,1),(4,2),(5,2),(6,1),(7,2),(8,2),(9,2),(10,0)] ze4 kR<|pU I (bj aO I aI I)<|gB I (qL (v:=.slice (some ⟨bu,0,none⟩) X.sides.length d8) bg I<|cO 0 I I)<|pU I (bj aO I aI I)<|gB I (qL (v:=.slice (some ⟨bu,0,none⟩) X.sides.length d8) bg I<|cO 0 I I)<|pU I (iA aW aV I I I oM sL)<|pU I (bj dh I zT3 I)<|gB I (aZ (e:=encSide) (a:=x0) (j:=0) (o:=1) (u:=vi x0.sign) iT3 I (zb7 1 I) i1 I)<|pU I (SU.neg I)<|pU I (iA aW aV I I I oM sL)<|pU I (bj dh I zT3 I)<|H8 I (JF (e:=encSide) (a:=x0) (j:=0) (o:=1) 1 ⟨x0.cell,IntKind.i64.wrap<|0 - x0.sign⟩ zT3 I I I i1 I I dC I) (.inl dC) ?_;rintro _ _ _ ⟨rfl,rfl⟩;exact du<|za9 (X.sides.set 0 ⟨x0.cell,IntKind.i64.wrap<|0 - x0.sign⟩) sB I I dO
     ·exact kP<|za9 X.sides sB I I I
    rintro S hS;try dsimp only at hS ⊢
    refine rZ<|lK (qV 0 jS dY I I I)<|oZ (sK 4 dY rfl rfl rfl rfl rfl<|by (repeat' (first | exact trivial | refine⟨by rfl,?_⟩))) ?_;refine tZ<|rE<|bR<|tR ?_;rw[← hS];refine ST.perm (zk2 _ _ _) (fT fun g6 b a4=>?_);exact kn 3 s (.inl I) results72 I jS dY I I uR ⟨I,m.trans b,⟨1,n,ed,0,0,S,[]⟩,⟨_,_,I,a4,zc1 _ _⟩,by dsimp only;omega,by simp,fun _=>I,fun h _ _ _=>⟨fun _=>L h,fun y=>absurd (show (1:Int)=3 from y) dC⟩⟩
   ·refine rZ<|yE I<|aT I<|iP I (fun h3=>?_) (fun h3=>?_)
    ·refine sW I<|lU (bj ap I zT3 I)<|lK (qL (v:=vi R) iT3 I<|cO 1 I I)<|lU (ze2 I I)<|lU (bj ap I zT3 I)<|lK (qL (v:=vi N) iT3 I<|cO 1 I I)<|lU (za3 I<|buildS87 _ _)<|lU (bj ap I zT3 I)<|lK (qL (v:=vi T) iT3 I<|cO 0 I I)<|lU (za3 I<|buildS87 _ _)<|lW (bS sty45 I I I (ab sB) dC) ?_;rintro _ _ _ ⟨d3,rfl,rfl,rfl⟩;refine zb5 fun g6 b c1=>?_;have a4:SlA encSide g6 (.slice (some ⟨d3,0,none⟩) 2 2) [⟨N,1⟩,⟨T,-1⟩]:=kb c1 rfl rfl;refine lU (za3 I<|bB48 _ _ _ _ _ _)<|oZ (sK 2 dY rfl rfl rfl rfl rfl<|by (repeat' (first | exact trivial | refine⟨by rfl,?_⟩))) ?_;refine tZ<|rE<|bR<|tR ?_;exact kn 2 s (.inl I) results72 I jS dY I I uR ⟨I,m.trans b,⟨1,n,IntKind.i64.wrap<|R+1,0,0,[⟨N,1⟩,⟨T,-1⟩],[]⟩,⟨_,_,I,a4,zc1 _ _⟩,by simp,by simp,fun _=>I,fun h _ _ _=>⟨fun _=>L h,fun y=>absurd (show (1:Int)=3 from y) dC⟩⟩
    ·refine rZ<|yE I<|aT I<|iP I (fun h4=>?_) (fun h4=>?_)
     ·refine sQ<|rZ<|lU (bj ek I zT3 I)<|lK (qL (v:=vi t) iT3 I<|cO 4 I I)<|lU (zd9 I I dC)<|lU (nQ I I)<|tZ<|iP I (fun hz=>?_) (fun hz=>?_)
      ·refine sQ<|dW [6] [(0,1),(2,2),(3,1),(1,0),(4,0),(5,2),(6,0)] ze4 kR<|gB I (qV 3 aj ae I I I)<|pU I (bj ek I zT3 I)<|gB I (qL (v:=vi f) iT3 I<|cO 4 I I)<|mf I (bt call122 I<|wN E g5 _ _ l d2 hf) dC (.inr iR) ?_;rintro _ g6 _ ⟨rfl,b,hT⟩;obtain ⟨pT,cT,rfl⟩:=za4 hT;refine mf I (bt call121 I<|eh E g6 _ _ (xS l) f hT l4) dC (.inr iR) ?_;rintro _ _ _ ⟨rfl,rfl,U,rfl⟩;refine pU I (za3 I<|bA48 _ _)<|H8 rfl (sK 2 dY rfl rfl rfl rfl rfl<|by (repeat' (first | exact trivial | refine⟨by rfl,?_⟩))) (.inl dC) ?_;rintro _ _ _ ⟨rfl,rfl⟩;refine du<|tN<|rE<|tR<|bR<|tR ?_;exact kn 2 s (.inl I) results72 I jS dY I I uR ⟨I,m.trans b,⟨2,U,0,0,0,[],[]⟩,⟨_,_,I,zc1 _ _,zc1 _ _⟩,by simp,by simp,(by intro b0;exfalso;omega),fun _ _ _ _=>⟨fun y=>absurd (show (2:Int)=1 from y) dC,fun y=>absurd (show (2:Int)=3 from y) dC⟩⟩
      ·refine kP<|tN<|rZ<|lU (bj ap I zT3 I)<|lK (qL (v:=vi N) iT3 I<|cO 1 I I)<|lU (za3 I<|bA48 _ _)<|oZ (sK 2 dY rfl rfl rfl rfl rfl<|by (repeat' (first | exact trivial | refine⟨by rfl,?_⟩))) ?_;refine tZ<|rE<|bR<|tR ?_;exact kn 2 s (.inl I) results72 I jS dY I I uR ⟨I,m,⟨2,N,0,0,0,[],[]⟩,⟨_,_,I,zc1 _ _,zc1 _ _⟩,by simp,by simp,(by intro b0;exfalso;omega),fun _ _ _ _=>⟨fun y=>absurd (show (2:Int)=1 from y) dC,fun y=>absurd (show (2:Int)=3 from y) dC⟩⟩
     ·refine lu (ι:=Unit) (fun _=>[(2,pp J 0),(3,pp O 0),(4,pp C 0),(7,.slice pV V.length cV),(8,.slice pW W.length cW),(9,vi n),(10,pp B 0),(12,pp G 0),(70,vi kd),(158,vb<|decide<|kd=5∨kd=6)]) (fun _=>g5) (fun _=>pt G (bY #[vi T,vi yd,.slice yp Y.sides.length yc] 61)::pt B (bY #[vi N,vi R,.slice xp X.sides.length xc] 61)::pt C (bY #[vi 0,vi 0,vi 0,vi 0,vi 0,.slice none 0 0,.slice none 0 0] 48)::pt O (bY #[.slice p l.length c] 29)::pt J (bY #[vi k0,vi f,vi t,vi F] 113)::s) (fun _=>True) ?_ ?_
      ·refine rZ<|yE I<|aT I<|iP I (fun h5=>?_) (fun h5=>?_)
       ·exact kP<|za9 () ⟨I,I,I,I,I,I,I,I,I,by rw[decide_eq_decide.2 (show (kd=5∨kd=6)↔kd=5 from ⟨fun _=>h5,.inl⟩)];rfl,trivial⟩ rfl rfl trivial
       ·exact rG<|yE I<|lA I<|cp<|za9 () ⟨I,I,I,I,I,I,I,I,I,by rw[decide_eq_decide.2 (show (kd=5∨kd=6)↔kd=6 from ⟨fun h=>h.resolve_left h5,.inr⟩)];rfl,trivial⟩ rfl rfl trivial
      rintro _ -;try dsimp only
      refine iP I (fun o1=>?_) (fun o1=>?_)
      ·refine lu (ι:=Nat×Int) (fun i=>[(2,pp J 0),(4,pp C 0),(9,vi n),(10,pp B 0),(15,pp i.1 0)]) (fun _=>g5) (fun i=>pt i.1 (bY #[vi 3,vi i.2,vi 0,vi n,vi<|IntKind.i64.wrap<|n+1,.slice none 0 0,.slice none 0 0] 48)::pt G (bY #[vi T,vi yd,.slice yp Y.sides.length yc] 61)::pt B (bY #[vi N,vi R,.slice xp X.sides.length xc] 61)::pt C (bY #[vi 0,vi 0,vi 0,vi 0,vi 0,.slice none 0 0,.slice none 0 0] 48)::pt O (bY #[.slice p l.length c] 29)::pt J (bY #[vi k0,vi f,vi t,vi F] 113)::s) (fun _=>True) ?_ ?_
       ·refine rG<|lM I<|lU (bj ek I zT3 I)<|lK (qL (v:=vi f) iT3 I<|cO 4 I I)<|lW (bt call121 I<|eh E g5 _ _ W f h9 c9) ?_;rintro _ _ _ ⟨rfl,rfl,U,rfl⟩;refine lM I (lM I<|lU (ze2 I I)<|lU (za3 I<|bC48 _ _ _ _)<|bW (aL zl2) fun c4=>?_);refine oZ (sK 0 dY rfl rfl rfl rfl rfl<|by (repeat' (first | exact trivial | refine⟨by rfl,?_⟩))) ?_;refine cp ?_;exact za9 (c4,U) sB I I trivial
       rintro ⟨c4,U⟩ -;try dsimp only
       refine lu (ι:=Int×Int×Int) (fun _=>[(4,pp C 0),(15,pp c4 0)]) (fun _=>g5) (fun i=>pt c4 (bY #[vi 3,vi i.1,vi 0,vi i.2.1,vi i.2.2,.slice none 0 0,.slice none 0 0] 48)::pt G (bY #[vi T,vi yd,.slice yp Y.sides.length yc] 61)::pt B (bY #[vi N,vi R,.slice xp X.sides.length xc] 61)::pt C (bY #[vi 0,vi 0,vi 0,vi 0,vi 0,.slice none 0 0,.slice none 0 0] 48)::pt O (bY #[.slice p l.length c] 29)::pt J (bY #[vi k0,vi f,vi t,vi F] 113)::s) (fun i=>(∀ c∈l,bh c.id)→bh i.2.1∧bh i.2.2) ?_ ?_
       ·refine rZ<|lU (bj ek I zT3 I)<|lK (qL (v:=vi t) iT3 I<|cO 5 I I)<|lW (bt my I<|bL E g5 _ t 12 dC) ?_;rintro _ _ _ ⟨rfl,rfl,rfl⟩;generalize ci t 12=kt at *;refine tZ<|bK<|rZ<|yE I<|aT I<|iP I (fun k0=>?_) (fun k0=>?_)
        ·refine rG<|lU (bj ap rfl zT3 rfl)<|lK (qL (v:=vi N) iT3 rfl<|cO 2 rfl rfl)<|lU (bj aO rfl zT3 rfl)<|oZ (oi 0 zT3 rfl rfl rfl rfl (bE rfl)<|by rfl) ?_;refine cp<|bN ?_;exact za9 (N,n,IntKind.i64.wrap<|n+1) sB I I fun h=>⟨L h,jw _⟩
        ·refine rZ<|yE I<|aT I<|iP I (fun k1=>?_) (fun k1=>?_)
         ·refine rG<|lU (bj aO rfl zT3 rfl)<|lK (qL (v:=vi<|IntKind.i64.wrap<|n+1) iT3 rfl<|cO 0 rfl rfl)<|lU (bj aO rfl zT3 rfl)<|oZ (oi 0 zT3 rfl rfl rfl rfl (bE rfl)<|by rfl) ?_;refine cp<|bN ?_;exact za9 (U,IntKind.i64.wrap<|n+1,IntKind.i64.wrap<|n+1) sB I I fun h=>⟨jw _,jw _⟩
         ·refine rZ<|yE I<|aT I<|iP I (fun k2=>?_) (fun k2=>?_)
          ·refine rG<|lU (bj ek rfl zT3 rfl)<|lK (qL (v:=vi f) iT3 rfl<|cO 5 rfl rfl)<|lU (SU.neg rfl)<|lU (bj aO rfl zT3 rfl)<|oZ (oi 0 zT3 rfl rfl rfl rfl (bE rfl)<|by rfl) ?_;refine cp<|bN ?_;exact za9 (U,n,IntKind.i64.wrap<|0 - f) sB I I fun h=>⟨L h,jw _⟩
          ·refine rZ<|yE I<|aT I<|iP I (fun k3=>?_) (fun k3=>?_)
           ·refine sW rfl<|lU (ze2 rfl rfl)<|lU (bj aO rfl zT3 rfl)<|oZ (oi 0 zT3 rfl rfl rfl rfl (bE rfl)<|by rfl) ?_;refine tZ<|rG<|lM rfl<|lU (bj aO rfl zT3 rfl)<|oZ (oi 0 zT3 rfl rfl rfl rfl (bE rfl)<|by rfl) ?_;refine cp<|bN ?_;exact za9 (U,IntKind.i64.wrap<|n+1,n) sB I I fun h=>⟨jw _,L h⟩
           ·exact kP<|bN<|za9 (U,n,IntKind.i64.wrap<|n+1) sB I I fun h=>⟨L h,jw _⟩
       rintro ⟨e1,e2,e3⟩ c6;try dsimp only at c6 ⊢
       refine rZ<|lK (qV 0 jS dY I I I)<|oZ (sK 3 dY rfl rfl rfl rfl rfl<|by (repeat' (first | exact trivial | refine⟨by rfl,?_⟩))) ?_;refine tZ<|rE<|bR<|tR ?_;exact kn 3 s (.inl I) results72 I jS dY I I uR ⟨I,m,⟨3,e1,0,e2,e3,[],[]⟩,⟨_,_,I,zc1 _ _,zc1 _ _⟩,by simp,by simp,(by intro b0;exfalso;omega),fun h ha _ _=>⟨fun y=>absurd (show (3:Int)=1 from y) dC,fun _=>c6 h⟩⟩
      ·refine rZ<|yE I<|aT I<|iP I (fun h7=>?_) (fun h7=>?_)
       ·refine lu (ι:=Nat×Option Addr×Nat×List Pr) (fun i=>[(2,pp J 0),(3,pp O 0),(4,pp C 0),(7,.slice pV V.length cV),(8,.slice pW W.length cW),(16,pp i.1 0)]) (fun _=>g5) (fun i=>pt i.1 (bY #[vi 4,vi 0,vi 0,vi 0,vi 0,.slice none 0 0,.slice i.2.1 i.2.2.2.length i.2.2.1] 48)::rowA em 88 (.slice i.2.1 i.2.2.2.length i.2.2.1) i.2.2.2::pt G (bY #[vi T,vi yd,.slice yp Y.sides.length yc] 61)::pt B (bY #[vi N,vi R,.slice xp X.sides.length xc] 61)::pt C (bY #[vi 0,vi 0,vi 0,vi 0,vi 0,.slice none 0 0,.slice none 0 0] 48)::pt O (bY #[.slice p l.length c] 29)::pt J (bY #[vi k0,vi f,vi t,vi F] 113)::s) (fun i=>i.2.2.2.length≤1) ?_ ?_
        ·refine rG<|lU (bj ap I zT3 I)<|lK (qL (v:=vi N) iT3 I<|cO 1 I I)<|lU (bj ap I zT3 I)<|lK (qL (v:=vi T) iT3 I<|cO 0 I I)<|lU (za3 I<|build88 _ _)<|lW (bS sty46 I I I (ab ⟨I,trivial⟩) dC) ?_;rintro _ _ _ ⟨i3,rfl,rfl,rfl⟩;refine SL.to (fun w hw=>Ig (e:=em) (l:=[(N,T)]) (n:=0) hw I I dC) ?_;refine lU (za3 I<|bD48 _ _ _ _) (bW (aL zl2) fun P=>?_);refine oZ (sK 0 dY rfl rfl rfl rfl rfl<|by (repeat' (first | exact trivial | refine⟨by rfl,?_⟩))) ?_;refine cp ?_;exact za9 (P,some ⟨i3,0,none⟩,1,[(N,T)]) sB I I<|dm 1
        rintro ⟨P,q6,d6,P6⟩ M;dsimp only at M ⊢;refine lu (ι:=Option Addr×Nat×List Pr) (fun _=>[(2,pp J 0),(3,pp O 0),(4,pp C 0),(7,.slice pV V.length cV),(8,.slice pW W.length cW),(16,pp P 0)]) (fun i=>g5) (fun i=>pt P (bY #[vi 4,vi 0,vi 0,vi 0,vi 0,.slice none 0 0,.slice i.1 i.2.2.length i.2.1] 48)::rowA em 88 (.slice i.1 i.2.2.length i.2.1) i.2.2::pt G (bY #[vi T,vi yd,.slice yp Y.sides.length yc] 61)::pt B (bY #[vi N,vi R,.slice xp X.sides.length xc] 61)::pt C (bY #[vi 0,vi 0,vi 0,vi 0,vi 0,.slice none 0 0,.slice none 0 0] 48)::pt O (bY #[.slice p l.length c] 29)::pt J (bY #[vi k0,vi f,vi t,vi F] 113)::s) (fun i=>i.2.2.length≤1) ?_ ?_
        ·refine rZ<|lU (bj ek I zT3 I)<|lK (qL (v:=vi t) iT3 I<|cO 6 I I)<|lU (zd9 I I dC)<|yE I<|tZ<|iP I (fun hz=>?_) (fun hz=>?_)
         ·refine dW [12] [(0,2),(1,2),(2,1),(4,2),(5,2),(6,1),(7,2),(3,0),(8,0),(9,2),(10,0),(11,2),(12,0)] ze4 kR<|yM I<|pU I (bj ek I zT3 I)<|gB I (qL (v:=vi f) iT3 I<|cO 6 I I)<|yM I<|pU I (bj ek I zT3 I)<|gB I (qL (v:=vi t) iT3 I<|cO 6 I I)<|pU I (IZ I I dC)<|mf I (bt call121 I<|eh E g5 _ _ V f b9 c3) dC (.inr iR) ?_;rintro _ _ _ ⟨rfl,rfl,U,rfl⟩;refine mf I (bt call121 I<|eh E g5 _ _ V _ b9 c3) dC (.inr iR) ?_;rintro _ _ _ ⟨rfl,rfl,a2,rfl⟩;refine pU I (za3 I<|build88 _ _)<|mf I (bS sty46 I I I (ab ⟨I,trivial⟩) dC) dC (.inr iR) ?_;rintro _ _ _ ⟨j0,rfl,rfl,rfl⟩;refine JJ (fun w hw=>Ig (e:=em) (l:=[(U,a2)]) (n:=0) hw I I dC) ?_;refine SP.drop (.cons_cons _<|.cons_cons _<|.cons _<|.refl _) ?_;refine JJ (fun w hw=>IW hw<|zk2 (pt P _) _ _) ?_;refine pU rfl (bj aO rfl jP rfl)<|H8 rfl (oi 0 jP rfl rfl rfl rfl (bE rfl)<|by rfl) (.inl dC) ?_;rintro _ _ _ ⟨rfl,rfl⟩;refine du ?_;exact za9 (some ⟨j0,0,none⟩,1,[(U,a2)]) sB I I<|dm 1
         ·exact kP<|za9 (q6,d6,P6) sB I I M
        clear M;rintro ⟨q6,d6,P6⟩ M;dsimp only at M ⊢;refine lu (ι:=PH×Option Addr×Nat×List Pr) (fun _=>[(2,pp J 0),(3,pp O 0),(4,pp C 0),(7,.slice pV V.length cV),(8,.slice pW W.length cW),(16,pp P 0)]) (fun i=>i.1) (fun i=>pt P (bY #[vi 4,vi 0,vi 0,vi 0,vi 0,.slice none 0 0,.slice i.2.1 i.2.2.2.length i.2.2.1] 48)::rowA em 88 (.slice i.2.1 i.2.2.2.length i.2.2.1) i.2.2.2::pt G (bY #[vi T,vi yd,.slice yp Y.sides.length yc] 61)::pt B (bY #[vi N,vi R,.slice xp X.sides.length xc] 61)::pt C (bY #[vi 0,vi 0,vi 0,vi 0,vi 0,.slice none 0 0,.slice none 0 0] 48)::pt O (bY #[.slice p l.length c] 29)::pt J (bY #[vi k0,vi f,vi t,vi F] 113)::s) (fun i=>Le g5 i.1∧i.2.2.2.length≤1) ?_ ?_
        ·refine rZ<|lU (bj ek I zT3 I)<|lK (qL (v:=vi t) iT3 I<|cO 6 I I)<|lU (zd9 I I dC)<|yE I<|tZ<|iP I (fun hz=>?_) (fun hz=>?_)
         ·refine rG<|lK (qV 5 aj ae I I I)<|lU (bj ek I zT3 I)<|lK (qL (v:=vi f) iT3 I<|cO 6 I I)<|lW (bt call123 I<|BL E g5 _ _ l f d2 hf) ?_;rintro v228 g6 _ ⟨Q6,rfl,b,o2⟩;refine zd4 fun ⟨w0,A⟩=>?_;obtain ⟨q7,d7,rfl⟩:=ag (e:=em) (l:=Q6) (i:=0) A rfl;clear A w0;refine JD (.cons_cons _<|.cons_cons _<|.cons _<|.refl _) ?_;refine SL.to (fun w hw=>IW hw<|zk2 (pt P _) _ _) ?_;refine lU (bj aO rfl jP rfl)<|oZ (oi 0 jP rfl rfl rfl rfl (bE rfl)<|by rfl)<|cp ?_;exact za9 (g6,q7,d7,Q6) sB I I ⟨b,o2⟩
         ·exact kP<|za9 (g5,q6,d6,P6) sB I I ⟨zb9 _,M⟩
        clear M;rintro ⟨g6,q6,d6,P6⟩ ⟨b,M⟩;dsimp only at b M ⊢;have q5:=za5 b9 b;have j1:=za5 h9 b;refine lu (ι:=PH×Option Addr×Nat×List Pr) (fun _=>[(4,pp C 0),(16,pp P 0)]) (fun i=>i.1) (fun i=>pt P (bY #[vi 4,vi 0,vi 0,vi 0,vi 0,.slice none 0 0,.slice i.2.1 i.2.2.2.length i.2.2.1] 48)::rowA em 88 (.slice i.2.1 i.2.2.2.length i.2.2.1) i.2.2.2::pt G (bY #[vi T,vi yd,.slice yp Y.sides.length yc] 61)::pt B (bY #[vi N,vi R,.slice xp X.sides.length xc] 61)::pt C (bY #[vi 0,vi 0,vi 0,vi 0,vi 0,.slice none 0 0,.slice none 0 0] 48)::pt O (bY #[.slice p l.length c] 29)::pt J (bY #[vi k0,vi f,vi t,vi F] 113)::s) (fun i=>i.1=g6∧i.2.2.2.length≤2) ?_ ?_
        ·refine rZ<|lU (bj ek I zT3 I)<|lK (qL (v:=vi F) iT3 I<|cO 6 I I)<|lU (zd9 I I dC)<|yE I<|tZ<|iP I (fun hz=>?_) (fun hz=>?_)
         ·refine dW [12,14] [(0,2),(1,1),(2,2),(3,2),(4,1),(6,2),(7,2),(8,1),(5,0),(9,0),(10,2),(11,0),(12,0),(13,2),(14,0)] ze4 kR<|pU I (bj aO I jP I)<|gB I (qL (v:=.slice q6 P6.length d6) mA I<|cO 0 I I)<|yM I<|pU I (bj ek I zT3 I)<|gB I (qL (v:=vi f) iT3 I<|cO 6 I I)<|yM I<|pU I (bj ek I zT3 I)<|gB I (qL (v:=vi t) iT3 I<|cO 6 I I)<|mf I (bt call121 I<|eh E g6 _ _ W f j1 c9) dC (.inr iR) ?_;rintro _ _ _ ⟨rfl,rfl,U,rfl⟩;refine mf I (bt call121 I<|eh E g6 _ _ W t j1 c9) dC (.inr iR) ?_;rintro _ _ _ ⟨rfl,rfl,a2,rfl⟩;refine pU I (za3 I<|build88 _ _)<|mf I (bS sty46 I I I (ab ⟨I,trivial⟩) dC) dC (.inr iR) ?_;rintro _ _ _ ⟨q0,rfl,rfl,rfl⟩;refine mf I (aP (e:=em) (l:=P6) 1 (U,a2) sty46 I I I I I oM oM) dC (.inl dC) ?_;rintro v246 _ _ ⟨rfl,rfl⟩;refine zd3 fun ⟨w0,A⟩=>?_;obtain ⟨q7,d7,rfl⟩:=ag (e:=em) (l:=P6++[(U,a2)]) (i:=1) A rfl;clear A w0;refine pU rfl (bj aO rfl jP rfl)<|H8 rfl (oi 0 jP rfl rfl rfl rfl (bE rfl)<|by rfl) (.inl dC) ?_;rintro _ _ _ ⟨rfl,rfl⟩;refine du ?_;exact za9 (g6,q7,d7,P6++[(U,a2)]) sB I I ⟨I,by dsimp only;rw[ze6,ze8];omega⟩
         ·exact kP<|za9 (g6,q6,d6,P6) sB I I ⟨I,by dsimp only;omega⟩
        clear M;rintro ⟨g7,q6,d6,P6⟩ ⟨j2,M⟩;dsimp only at j2 M ⊢;subst j2;refine rZ<|lK (qV 0 jS dY I I I)<|oZ (sK 4 dY rfl rfl rfl rfl rfl<|by (repeat' (first | exact trivial | refine⟨by rfl,?_⟩))) ?_;refine tZ (rE<|bR<|tR<|ST.perm (zk2 _ _ _)<|fT fun g8 l0 p0=>?_);exact kn 3 s (.inl I) results72 I jS dY I I uR ⟨I,m.trans<|b.trans l0,⟨4,0,0,0,0,[],P6⟩,⟨_,_,I,zc1 _ _,p0⟩,by simp,by dsimp only;omega,(by intro b0;exfalso;omega),fun _ _ _ _=>⟨fun y=>absurd (show (4:Int)=1 from y) dC,fun y=>absurd (show (4:Int)=3 from y) dC⟩⟩
       ·refine rZ<|yE I<|aT I<|iP I (fun h8=>?_) (fun h8=>?_)
        ·refine rZ<|lK (qV 3 aj ae I I I)<|lW (bt call124 I<|yT E g5 _ _ l d2 hf) ?_;rintro v252 g6 _ ⟨rfl,b,F8,d4,q9⟩;obtain ⟨pF,cF,rfl⟩:=za4 d4;have c2:=m.trans b;refine aT I<|lu (ι:=Unit) (fun _=>[(4,pp C 0),(10,pp B 0),(12,pp G 0)]) (fun _=>g6) (fun _=>pt G (bY #[vi T,vi yd,.slice yp Y.sides.length yc] 61)::pt B (bY #[vi N,vi R,.slice xp X.sides.length xc] 61)::pt C (bY #[vi 0,vi 0,vi 0,vi 0,vi 0,.slice none 0 0,.slice none 0 0] 48)::pt O (bY #[.slice p l.length c] 29)::pt J (bY #[vi k0,vi f,vi t,vi F] 113)::s) (fun _=>True) ?_ ?_
         ·refine BY 261 (decide (0<F8.length)&&decide (t.tmod 5≠0)) ?_ ?_
          ·refine rG<|lM I<|lU (eN ld I)<|lU (gR I I)<|lM I<|sP ?_ ?_
           ·intro l1;exact lY I I I (bj ek I zT3 I)<|lR (gT I I I dC) (qL (v:=vi t) iT3 I<|cO 4 I I) dC<|lY I I I (zd9 I I dC)<|lY I I I (nQ I I)<|yP I<|cp<|zb1 (by (simp_all[aU];done)) mI
           ·intro l1;exact yA I<|yA I<|yA I<|yA I<|yF I<|cp<|zb1 (by (simp_all[aU];done)) mI
          refine iQ I (fun hq=>?_) (fun hq=>?_)
          ·simp only[zj4,zj7] at hq;obtain ⟨p3,p4⟩:=tJ f F8.length oM oM;have p5:=za6 d4 hq.1;have p6:F8[(ci f F8.length).toNat]?=some F8[(ci f F8.length).toNat]:=bd p4;generalize F8[(ci f F8.length).toNat]=pr at *;obtain ⟨p1,p2⟩:=pr;refine sW I<|lU (bj ek I zT3 I)<|lK (qL (v:=vi f) iT3 I<|cO 4 I I)<|lM I<|lU (eN ld I)<|lW (bt my I<|bL E g6 _ f F8.length oM) ?_;rintro _ _ _ ⟨rfl,rfl,rfl⟩;rw[p3];refine lU (iA ld qQ I I p5 oM sL) (lK (iN isAgg88 qQ I (za7 d4) p6)<|bW (aL zeroValue88) fun r0=>?_);refine oZ (sK 0 qQ I I I I I sB)<|tZ<|rZ<|lU (iB rq zT3 I I dC dC)<|lK (qL (v:=vi p1) iT3 I<|cO 0 I I)<|lU (iB rq zT3 I I dC dC)<|lK (qL (v:=vi p2) iT3 I<|cO 0 I I)<|lU (za3 I<|bE48 _ _ _)<|oZ (sK 3 dY rfl rfl rfl rfl rfl<|by (repeat' (first | exact trivial | refine⟨by rfl,?_⟩))) ?_;refine tZ<|rE<|tR<|bR<|tR ?_;exact kn 3 s (.inl I) results72 I jS dY I I uR ⟨I,c2,⟨5,p1,0,0,p2,[],[]⟩,⟨_,_,I,zc1 _ _,zc1 _ _⟩,by simp,by simp,(by intro b0;exfalso;omega),fun _ _ _ _=>⟨fun y=>absurd (show (5:Int)=1 from y) dC,fun y=>absurd (show (5:Int)=3 from y) dC⟩⟩
          ·exact kP<|za9 () sB I I trivial
         rintro _ -;try dsimp only
         refine rZ<|lU (bj ap I zT3 I)<|lK (qL (v:=vi N) iT3 I<|cO 1 I I)<|lU (bj ap I zT3 I)<|lK (qL (v:=vi T) iT3 I<|cO 0 I I)<|lU (za3 I<|bE48 _ _ _)<|oZ (sK 2 dY rfl rfl rfl rfl rfl<|by (repeat' (first | exact trivial | refine⟨by rfl,?_⟩))) ?_;refine tZ<|rE<|bR<|tR ?_;exact kn 2 s (.inl I) results72 I jS dY I I uR ⟨I,c2,⟨5,N,0,0,T,[],[]⟩,⟨_,_,I,zc1 _ _,zc1 _ _⟩,by simp,by simp,(by intro b0;exfalso;omega),fun _ _ _ _=>⟨fun y=>absurd (show (5:Int)=1 from y) dC,fun y=>absurd (show (5:Int)=3 from y) dC⟩⟩
        ·refine kP<|bN<|tN<|rZ<|lU (bj ek I zT3 I)<|lK (qL (v:=vi f) iT3 I<|cO 4 I I)<|lU (zd9 I I dC)<|lU (SU.subW I I)<|lU (bj ek I zT3 I)<|lK (qL (v:=vi t) iT3 I<|cO 4 I I)<|lU (bj ek I zT3 I)<|lK (qL (v:=vi F) iT3 I<|cO 4 I I)<|lU (zd9 I I dC)<|lU (bj ek I zT3 I)<|lK (qL (v:=vi f) iT3 I<|cO 4 I I)<|lU (bj ek I zT3 I)<|lK (qL (v:=vi F) iT3 I<|cO 4 I I)<|lU (bj ek I zT3 I)<|lK (qL (v:=vi t) iT3 I<|cO 4 I I)<|lU (za3 I<|buildS87 _ _)<|lW (bS sty45 I I I (ab ⟨I,trivial⟩) dC) ?_;rintro _ _ _ ⟨l2,rfl,rfl,rfl⟩;refine zb5 fun g6 b c1=>?_;have a4:SlA encSide g6 (.slice (some ⟨l2,0,none⟩) 1 1) [⟨t,1⟩]:=kb c1 rfl rfl;refine lU (bj ek I zT3 I)<|lK (qL (v:=vi f) iT3 I<|cO 4 I I)<|lU (bj ek I zT3 I)<|lK (qL (v:=vi F) iT3 I<|cO 4 I I)<|lU (za3 I<|build88 _ _)<|lW (bS sty46 I I I (ab ⟨I,trivial⟩) dC) ?_;rintro _ _ _ ⟨l3,rfl,rfl,rfl⟩;refine zb5 fun g7 c7 p7=>?_;have p9:SlA em g7 (.slice (some ⟨l3,0,none⟩) 1 1) [(f,F)]:=kb p7 rfl rfl;refine lU (za3 I<|bF48 _ _ _ _ _ _ _ _ _ _ _)<|oZ (sK 2 dY rfl rfl rfl rfl rfl<|by (repeat' (first | exact trivial | refine⟨by rfl,?_⟩))) ?_;refine tZ<|rE ?_;exact kn 2 s (.inl I) results72 I jS dY I I uR ⟨I,m.trans<|b.trans c7,⟨_,t,_,f,F,[⟨t,1⟩],[(f,F)]⟩,⟨_,_,I,za5 a4 c7,p9⟩,by simp,by simp,(by intro b0;exfalso;omega),fun _ ha hb hc=>⟨fun _=>hb,fun _=>⟨ha,hc⟩⟩⟩
theorem CO {e:Ed}(a:Rt D)(b:bC D e=0)(hB:cq D e=B)(hc:aa B=A)(hA:Rt A):dP D e=(0,A):=by
 unfold dP;rw[a.check,a.canon,zg2 rfl,b,hB];unfold aX;rw[hc,hA.check];rfl
def incS (S:List ak)(r:Int):Int:=(S.map fun y=>if y.cell=r then y.sign else 0).sum
def inc (A:List Cl)(id r:Int):Int:=incS ((ah A id).getD aJ).sides r
def cf (ts:List Tm)(r:Int):Int:=(ts.map fun t=>if t.1=r then t.2 else 0).sum
def chL (D:List Cl)(ts:List Tm)(r:Int):Int:=(ts.map fun t=>t.2 * inc D t.1 r).sum
def chR (img:Int→List Tm)(S:List ak)(r:Int):Int:=(S.map fun y=>y.sign * cf (img y.cell) r).sum
def GP (A D:List Cl)(img:Int→List Tm):Prop:=∀ x∈A,∀ r,chL D (img x.id) r=chR img x.sides r
theorem Hi (e:Ed)(a:Int)(y:Cl):(bQ e a y).id=y.id:=by unfold bQ;split <;> rfl
theorem qq {e:Ed}(h:Rt A)(hc:e6 A e=0):∃ c,c∈A∧c.id=e.cell∧ah A e.cell=some c∧c.dim=1 ∧
  dZ A e=[⟨e.new,0,[]⟩,⟨e.other,1,[⟨e.new,-1⟩,⟨(lh c.sides true).cell,1⟩]⟩]++A.map (bQ e (lh c.sides false).cell):=by
 unfold e6 at hc;cases a:ah A e.cell with
 | none=>rw[a] at hc;cases hc
 | some c =>
  rw[a] at hc;dsimp only at hc;obtain ⟨b,d⟩:=aC a;have hd:c.dim=1:=by
   by_cases hd:c.dim=1
   ·exact hd
   ·rw[zg2 hd] at hc;cases hc
  exact⟨c,b,d,I,hd,by unfold dZ;rw[h.findC,a];rfl⟩
theorem tG {ks:List Int}:c∈cd A ks↔c∈A∧c.id ∉ ks:=by
 unfold cd;rw[zh5];simp
theorem sY {e:Ed}(h:bC A e=0):e.kind=1∨e.kind=2∨e.kind=3∨e.kind=4∨e.kind=5:=by
 unfold bC at h;split at h
 ·omega
 split at h
 ·omega
 split at h
 ·omega
 split at h
 ·omega
 split at h
 ·omega
 cases h
def HD (D:List Cl)(d:Int)(ts:List Tm):Prop:=(ts.Pairwise fun a b=>a.1<b.1)∧(∀ t∈ts,t.2=1∨t.2 = -1)∧(∀ t∈ts,∃ c,ah D t.1=some c∧c.dim=d)∧ts.length≤64
structure HV (l m:List Cl)(img:Int→List Tm):Prop where
 cl:(aq l).2=0
 cm:(aq m).2=0
 fit:∀ x∈aa l,HD (aa m) x.dim<|img x.id
 chain:GP (aa l) (aa m) img
section
variable {m:List Cl}{img:Int→List Tm}(h:HV l m img)
include h
end
theorem Fw (acc:List Cl)(c:Cl):∃ d∈gU acc c,d.id=c.id:=by
 unfold gU;split
 ·rename_i h;obtain ⟨x,a,b⟩:=zj9.1 h;exact⟨x,a,by simpa using b⟩
 ·exact⟨c,by simp,I⟩
theorem D4 {acc:List Cl}(h:x∈acc)(c:Cl):x∈gU acc c:=by
 unfold gU;split
 ·exact h
 ·simp[h]
theorem sH:∀ (l:List Cl) {acc:List Cl} {x:Cl},x∈acc→x∈l.foldl gU acc
 | [],_,_,h=>h
 | c::l,_,_,h=>sH l<|D4 h c
theorem vP:∀ (l acc:List Cl) {x:Cl},x∈l→∃ d∈l.foldl gU acc,d.id=x.id
 | c::l,acc,x,h=>by
  rcases zf2.1 h with rfl | h
  ·obtain ⟨d,a,b⟩:=Fw acc x;exact⟨d,sH l a,b⟩
  ·exact vP l _ h
theorem Ev (h:c∈l):∃ d∈am l,d.id=c.id:=by
 have a:cH c∈aa l:=by
  unfold aa;exact zf3.2 ⟨c,(eO (key:=Cl.id) l).mem_iff.2 h,I⟩
 have b:=vP _ [] a;exact b
def iJ (Ls:List<|List Cl):List Int:=(am Ls.flatten).map Cl.id
theorem oB (Ls:List<|List Cl):(iJ Ls).Pairwise (· < ·):=by
 have a:=eL Ls.flatten;have b:=iq Ls.flatten;exact (a.and b).imp fun h=>by have:=h.1;have:=h.2;omega
theorem As {Ls:List<|List Cl}:id∈iJ Ls↔∃ A∈Ls,∃ c∈A,c.id=id:=by
 unfold iJ;constructor
 ·intro h;obtain ⟨c,hc,rfl⟩:=zf3.1 h;obtain ⟨d,hd,a⟩:=F6 hc;obtain ⟨A,hA,b⟩:=List.mem_flatten.1 hd;exact⟨A,hA,d,b,a⟩
 ·rintro ⟨A,hA,c,hc,rfl⟩;obtain ⟨d,hd,a⟩:=Ev<|List.mem_flatten.2 ⟨A,hA,hc⟩;exact zf3.2 ⟨d,hd,a⟩
def eZ (A B:List Cl)(id:Int):Bool:=decide<|ah A id=ah B id
def pickT (B L R:List Cl)(id:Int):Option (Option Cl) :=
 if eZ L R id||eZ R B id then some (ah L id) else if eZ L B id then some (ah R id) else none
def ix (B L R:List Cl):List Int:=(iJ [B,L,R]).filter fun id=>(pickT B L R id).isNone
def iY (B L R:List Cl):List Cl:=(iJ [B,L,R]).filterMap fun id=>(pickT B L R id).join
def kO (S:List Cl)(x:Cl):Bool:=x.sides.any fun s=>match ah S s.cell with
 | none=>true
 | some y=>decide<|y.dim≠x.dim - 1
def lJ (S:List Cl)(x:Cl):Bool:=decide (x.dim>1)&&decide (bM S x≠0)
def dL (w:Cl→Bool)(S:List Cl):List Int:=(S.filter w).map Cl.id
def iM (B L R:List Cl):List Cl×List Int :=
 if ix B L R≠[] then ([],ix B L R)
 else if dL (kO<|iY B L R) (iY B L R)≠[] then ([],dL (kO<|iY B L R)<|iY B L R)
 else if dL (lJ<|iY B L R) (iY B L R)≠[] then ([],dL (lJ<|iY B L R)<|iY B L R)
 else if 4000<(iY B L R).length then ([],dL (fun x=>(ah B x.id).isNone)<|iY B L R)
 else (iY B L R,[])
theorem rO {k:Int}:ah A k=none↔∀ c∈A,c.id≠k:=by
 unfold ah;rw[List.find?_eq_none];simp
theorem Ex (h:x∈iY B L R):(ah L x.id=some x∧(eZ L R x.id||eZ R B x.id)=true)∨(ah R x.id=some x∧eZ L B x.id=true):=by
 unfold iY at h;obtain ⟨id,_,a⟩:=List.mem_filterMap.1 h;unfold pickT at a;split at a
 ·rename_i b;have a:ah L id=some x:=a;have c:=(aC a).2;rw[← c] at a b;exact .inl ⟨a,b⟩
 ·split at a
  ·rename_i b;have a:ah R id=some x:=a;have c:=(aC a).2;rw[← c] at a b;exact .inr ⟨a,b⟩
  ·cases a
theorem zB (B L R:List Cl):(iY B L R).Pairwise fun a b=>a.id<b.id:=by
 unfold iY;rw[List.pairwise_filterMap];refine (oB [B,L,R]).imp fun {a b} f c hc d hd=>?_;have key:∀ {id:Int} {y:Cl},y∈(pickT B L R id).join→y.id=id:=fun {id y} e=>by
  have e:(pickT B L R id).join=some y:=e;unfold pickT at e;split at e
  ·exact (aC (show ah L id=some y from e)).2
  ·split at e
   ·exact (aC (show ah R id=some y from e)).2
   ·cases e
 rw[key hc,key hd];exact f
section
variable {z0 z1:ak}(hz:(z0.sign=1∧z1.sign = -1)∨(z0.sign = -1∧z1.sign=1))
include hz
end
section
variable (h:Rt A){e:Ed}
include h
theorem Gu {ks:List Int}(hc:∀ c∈A,c.id ∉ ks→∀ x∈c.sides,x.cell ∉ ks):Rt (cd A ks)∧aa (cd A ks)=cd A ks:=by
 have hp:ez A fun k=>!decide (k∈ks):=fun c a b x d=>by
  have:=hc c a (by simpa using b) x d;simpa using this
 exact⟨iu h hp,(o9 h ks).1⟩
theorem Dg (b:e.kind=2)(hc:∃ c∈A,c.id=e.cell)(d:aG A e.cell=[]):dP A e=(0,cd A [e.cell]):=by
 obtain ⟨c,a,g⟩:=hc;have hr:=Gu h (ks:=[e.cell]) fun c hc _ x i f=>by
  simp at f;have:c.id∈aG A e.cell:=h.mem_above.2 ⟨c,hc,rfl,zj9.2 ⟨x,i,by simpa using f⟩⟩;rw[d] at this;cases this
 refine CO h ?_ (by unfold cq;rw[zg1 oM,zg2 b]) hr.2 hr.1;unfold bC ji;rw[zg1 oM,zg2 b,d,← g,h.find a];rfl
end
theorem Gy {y:Cl}(h:(pickT B L R id).join=some y):y.id=id:=by
 unfold pickT at h;split at h
 ·exact (aC (show ah L id=some y from h)).2
 ·split at h
  ·exact (aC (show ah R id=some y from h)).2
  ·cases h
theorem oc (h:x∈iY B L R):x∈L∨x∈R:=by
 rcases Ex h with ⟨h,_⟩ | ⟨h,_⟩
 ·exact .inl (aC h).1
 ·exact .inr (aC h).1
theorem Gc (B L R:List Cl):(iY B L R).length≤B.length+(L.length+R.length):=by
 have a:(iY B L R).length≤(iJ [B,L,R]).length:=List.length_filterMap_le ..;have b:=jC [B,L,R].flatten;unfold iJ at a;rw[ze7] at a;have c:[B,L,R].flatten.length=B.length+(L.length+R.length):=by simp
 omega
theorem vU {w:Cl→Bool}{S:List Cl}(h:dL w S=[])(a:x∈S):w x=false:=by
 unfold dL at h;rw[List.map_eq_nil_iff,List.filter_eq_nil_iff] at h;simpa using h x a
theorem Hh (f:Rt L)(g:Rt R)(hl:dL (kO<|iY B L R) (iY B L R)=[])(i:dL (lJ<|iY B L R) (iY B L R)=[])(hn:(iY B L R).length≤4000):Rt<|iY B L R:=by
 refine⟨hn,zB B L R,fun x c=>?_,fun x c=>?_,fun x c hd=>?_⟩
 ·rcases oc c with h | h
  ·exact f.pos x h
  ·exact g.pos x h
 ·have a:∃ A,Fm A x:=by
   rcases oc c with h | h
   ·exact⟨L,f.form x h⟩
   ·exact⟨R,g.form x h⟩
  obtain ⟨A,a⟩:=a;refine⟨a.dim,a.cnt,fun s j=>?_,a.asc,a.sg,a.one⟩;have b:=vU hl c;unfold kO at b;rw[zk6] at b;have e:=b s j;cases hd:ah (iY B L R) s.cell with
  | none=>rw[hd] at e;simp at e
  | some d=>rw[hd] at e;simp at e;exact⟨d,I,e⟩
 ·have b:=vU i c;unfold lJ at b;rw[zf9 hd,Bool.true_and] at b;simpa using b
def cU (A B:List Cl)(id:Int):Bool:=(ah (fV A B) id).isSome
theorem md (A B:List Cl):(fV A B).Sublist A:=List.filter_sublist
theorem tP:cU A B id=true↔∃ c∈A,c.id=id∧la A B c=true:=by
 unfold cU;constructor
 ·intro h;obtain ⟨c,hc⟩:=zh9.1 h;obtain ⟨a,b⟩:=aC hc;obtain ⟨d,e⟩:=zh5.1 a;exact⟨c,d,b,e⟩
 ·rintro ⟨c,a,b,d⟩;cases f:ah (fV A B) id with
  | some _=>rfl
  | none=>exact absurd b<|rO.1 f c<|zh5.2 ⟨a,d⟩
section
variable (hA:Rt A)(hB:Rt B)
include hA
theorem tO (hc:c∈A):cU A B c.id=la A B c:=by
 rw[Bool.eq_iff_iff,tP];exact⟨fun ⟨d,a,b,e⟩=>by rw[← hA.same a hc b];exact e,fun h=>⟨c,hc,I,h⟩⟩
theorem pn (h:cU A B id=true):∃ c,ah A id=some c∧ah B id=some c:=by
 obtain ⟨c,d,rfl,e⟩:=tP.1 h;have b:=hA.find d;have hm:c.id∈gw A [c.id]:=(jY _ _ _).2 ⟨c.id,by simp,.refl _<|by unfold jF;rw[b];simp⟩;have a:=zk1.1 e _ hm;unfold oY at a;rw[b] at a;cases hb:ah B c.id with
 | none=>rw[hb] at a;cases a
 | some y =>
  rw[hb] at a;have f:c=y:=zg4 a;exact⟨c,b,by rw[f]⟩
theorem qE:ez A<|cU A B:=fun c hc g x i=>by
 obtain ⟨d,hd,_⟩:=(hA.form c hc).found x i;obtain ⟨e,a⟩:=aC hd;rw[tO hA hc] at g;refine tP.2 ⟨d,e,a,zk1.2 fun id f=>zk1.1 g id ?_⟩;obtain ⟨k,b,hr⟩:=(jY _ _ _).1 f;simp at b;subst b;refine (jY _ _ _).2 ⟨c.id,by simp,.step _ d.id _ (c.sides.map ak.cell) (by unfold jF;rw[hA.find hc];rfl) ?_ hr⟩;rw[a];exact zf3.2 ⟨x,i,I⟩
theorem vF:fV A B=part A (cU A B):=by
 unfold fV part;exact List.filter_congr fun c hc=>(tO hA hc).symm
include hB
theorem wU:ez B<|cU A B:=fun c hc a x e=>by
 obtain ⟨d,f,b⟩:=pn hA a;rw[hB.find hc] at b;cases b;exact qE hA c (aC f).1 a x e
theorem vy:part A (cU A B)=part B (cU A B):=by
 have key:∀ {A B:List Cl},Rt A→Rt B→∀ p:Int→Bool,(∀ c∈A,p c.id=true→c∈B)→(∀ c∈B,p c.id=true→c∈A)→part A p=part B p:=fun {A B} hA hB p e f=>by
  have g:(part A p).Perm<|part B p:=(List.perm_ext_iff_of_nodup (hA.nodup.sublist List.filter_sublist)<|hB.nodup.sublist List.filter_sublist).2 fun c=>by
   rw[zh5,zh5];exact⟨fun h=>⟨e c h.1 h.2,h.2⟩,fun h=>⟨f c h.1 h.2,h.2⟩⟩
  exact g.eq_of_pairwise (fun a b _ _ e f=>by omega) (hA.asc.sublist List.filter_sublist)<|hB.asc.sublist List.filter_sublist
 refine key hA hB _ (fun c hc i=>?_) fun c hc i=>?_
 ·obtain ⟨d,e,f⟩:=pn hA i;rw[hA.find hc] at e;cases e;exact (aC f).1
 ·obtain ⟨d,e,f⟩:=pn hA i;rw[hB.find hc] at f;cases f;exact (aC e).1
end
def o3 (A B:List Cl):List Cl:=sortBy (fun c:Cl=>-c.dim) (A.filter fun c=>!cU A B c.id)
def BV (A B:List Cl):List Cl:=sortBy Cl.dim (B.filter fun c=>!cU A B c.id)
def uq (x:Cl):Ed:=⟨2,x.id,0,0,0,[],[]⟩
def uw (x:Cl):Ed:=⟨1,x.id,x.dim,0,0,x.sides,[]⟩
def eo (A B:List Cl):List Ed:=(o3 A B).map uq++(BV A B).map uw
theorem zR (h:∀ c∈W,q c.id=true):part W q=W:=List.filter_eq_self.2 h
theorem Dk {p:Int→Bool}(h:∀ c∈W,p c.id=q c.id):part W p=part W q:=List.filter_congr h
theorem y9 (hW:Rt W)(hq:ez W q)(i:x∈W)(hn:q x.id=false)(m:∀ s∈x.sides,q s.cell=true) :
  ez W (fun k=>q k||decide (k=x.id))∧dP (part W q) (uw x)=(0,part W fun k=>q k||decide (k=x.id)):=by
 have d:ez W (fun k=>q k||decide (k=x.id)):=fun c hc l s f=>by
  try dsimp only at l ⊢
  rcases zj5 _ _ ▸ l with h | h
  ·rw[hq c hc h s f];rfl
  ·have:c=x:=hW.same hc i<|zg4 h;subst this;rw[m s f];rfl
 refine⟨d,CO (B:=part W q++[x]) (iu hW hq) ?_ I ?_<|iu hW d⟩
 ·show bC (part W q) (uw x)=0;unfold bC uw;rw[zg2 rfl];unfold fX;try dsimp only
  rw[Dj hn];rfl
 ·refine A9 (iu hW d) ((List.perm_ext_iff_of_nodup ?_<|hW.nodup.sublist List.filter_sublist).2 fun c=>?_)
  ·refine List.nodup_append.2 ⟨hW.nodup.sublist List.filter_sublist,by simp,fun a n b hb=>?_⟩;simp at hb;subst hb;intro e;subst e;have:=(zh5.1 n).2;rw[hn] at this;cases this
  ·unfold part;rw[zf4,zh5,zh5,zh8];constructor
   ·rintro (⟨g,j⟩ | rfl)
    ·exact⟨g,by (try dsimp only);rw[j];rfl⟩
    ·exact⟨i,by simp⟩
   ·rintro ⟨g,j⟩
    rcases zj5 _ _ ▸ j with h | h
    ·exact .inl ⟨g,h⟩
    ·exact .inr<|hW.same g i<|zg4 h
theorem s7 {W:List Cl}(hW:Rt W):∀ (N:List Cl) {q:Int→Bool} {ss:List Stp} {i:Nat},ez W q→(N.Pairwise fun a b=>a.dim≤b.dim)→N.Nodup→(∀ x∈N,x∈W∧q x.id=false)→(∀ c∈W,q c.id=false→c∈N) →
  ∃ f,l9 (part W q) ss i (N.map uw)=((0,0),W,f)
 | [],q,ss,i,_,_,_,_,h=>by
  refine⟨ss,?_⟩;show ((0,0),part W q,ss)=_;rw[zR fun c hc=>?_];cases hp:q c.id with
  | true=>rfl
  | false=>have:=h c hc hp;cases this
 | x::N,q,ss,i,hq,l,hn,g,t=>by
  rw[zk4] at l;rw[zk3] at hn;obtain ⟨m,n⟩:=g x dO;have o:∀ s∈x.sides,q s.cell=true:=fun s p=>by
   obtain ⟨d,hd,u⟩:=(hW.form x m).found s p;obtain ⟨v,w⟩:=aC hd;cases hp:q s.cell with
   | true=>rfl
   | false =>
    rw[← w] at hp
    rcases zf2.1 (t d v hp) with e | e
    ·subst e;omega
    ·have:=l.1 d e;omega
  obtain ⟨r,z⟩:=y9 hW hq m n o;obtain ⟨f,A⟩:=s7 hW N (q:=fun k=>q k||decide (k=x.id)) (ss:=ss++[imO (part W q)<|uw x]) (i:=i+1) r l.2 hn.2 (fun y j=>⟨(g y<|by simp[j]).1,by
   try dsimp only
   rw[(g y<|by simp[j]).2,zf8 fun e=>hn.1<|by rw[← hW.same (g y<|by simp[j]).1 m e];exact j];rfl⟩) fun c hc hp=>by
    try dsimp only at hp
    rw[Bool.or_eq_false_iff,hP] at hp
    rcases zf2.1 (t c hc hp.1) with e | e
    ·exact absurd (by rw[e]) hp.2
    ·exact e
  refine⟨f,?_⟩;rw[zg5];unfold l9;rw[z,zg2 rfl];exact A
theorem yh (hW:Rt W){p:Int→Bool}(hp:ez W p)(j:x∈W)(b:p x.id=true)(f:∀ c∈W,p c.id=true→∀ s∈c.sides,s.cell≠x.id) :
  ez W (fun k=>p k && !decide (k=x.id))∧dP (part W p) (uq x)=(0,part W fun k=>p k && !decide (k=x.id)):=by
 have d:ez W fun k=>p k && !decide (k=x.id):=fun c hc a s g=>by
  try dsimp only at a ⊢
  rw[zj4] at a;rw[hp c hc a.1 s g,zf8<|f c hc a.1 s g];rfl
 refine⟨d,(Dg (iu hW hp) (e:=uq x) I ⟨x,zh5.2 ⟨j,b⟩,I⟩ ?_).trans ?_⟩
 ·cases i:aG (part W p) x.id with
  | nil=>exact i
  | cons k ks =>
   have l:k∈aG (part W p) x.id:=by rw[i];simp
   obtain ⟨c,m,_,n⟩:=(iu hW hp).mem_above.1 l;obtain ⟨o,q⟩:=zh5.1 m;obtain ⟨s,r,t⟩:=zj9.1 n;exact absurd (zg4 t)<|f c o q s r
 ·refine ze3 (Prod.mk 0) ?_;unfold cd part;rw[List.filter_filter];refine List.filter_congr fun c hc=>?_;show (!decide (c.id∈[x.id])&&p c.id)=(p c.id && !decide (c.id=x.id));rw[Bool.and_comm];simp
theorem sa {W:List Cl}(hW:Rt W){k:Int→Bool}(z:ez W k)(E:List Ed):∀ (G:List Cl) {p:Int→Bool} {ss:List Stp} {i:Nat},ez W p→(G.Pairwise fun a b=>b.dim≤a.dim)→G.Nodup→(∀ x∈G,x∈W∧p x.id=true∧k x.id=false)→(∀ c∈W,p c.id=true→k c.id=true∨c∈G)→(∀ c∈W,k c.id=true→p c.id=true) →
  ∃ g,l9 (part W p) ss i (G.map uq++E)=l9 (part W k) g (i+G.length) E
 | [],p,ss,i,_,_,_,_,q,r=>by
  refine⟨ss,?_⟩;have:part W p=part W k:=Dk fun c hc=>by
   rw[Bool.eq_iff_iff];exact⟨fun h=>(q c hc h).resolve_right dO,r c hc⟩
  rw[this];rfl
 | x::G,p,ss,i,hp,t,hn,A,q,r=>by
  rw[zk4] at t;rw[zk3] at hn;obtain ⟨u,v,n⟩:=A x dO;have D:∀ c∈W,p c.id=true→∀ s∈c.sides,s.cell≠x.id:=fun c hc f s o B=>by
   rcases q c hc f with l | l
   ·have:=z c hc l s o;rw[B,n] at this;cases this
   ·obtain ⟨d,hd,F⟩:=(hW.form c hc).found s o;rw[B,hW.find u] at hd;cases hd
    rcases zf2.1 l with e | e
    ·subst e;omega
    ·have:=t.1 c e;omega
  obtain ⟨w,H⟩:=yh hW hp u v D;obtain ⟨g,J⟩:=sa hW z E G (p:=fun j=>p j && !decide (j=x.id)) (ss:=ss++[imO (part W p)<|uq x]) (i:=i+1) w t.2 hn.2 (fun y C=>by
   obtain ⟨a,b,c⟩:=A y (by simp[C]);refine⟨a,?_,c⟩;try dsimp only
   rw[b,zf8 fun e=>hn.1<|by rw[← hW.same a u e];exact C];rfl) (fun c hc f=>by
   try dsimp only at f
   rw[zj4] at f
   rcases q c hc f.1 with l | l
   ·exact .inl l
   ·rcases zf2.1 l with e | e
    ·rw[e] at f;simp at f
    ·exact .inr e) fun c hc m=>by
   try dsimp only
   rw[r c hc m,zf8 fun e=>by rw[e,n] at m;cases m];rfl
  refine⟨g,?_⟩;rw[zg5,List.cons_append]
  conv=>lhs;unfold l9
  rw[H,zg2 rfl];try dsimp only
  rw[J,ze9];congr 1;omega
theorem zC {α:Type}{key:α→Int}(l:List α):(sortBy key l).Pairwise fun a b=>key a≤key b:=c8 l
theorem zT:x∈BV A B↔x∈B∧cU A B x.id=false:=by
 unfold BV;rw[er,zh5];simp
theorem vJ:x∈o3 A B↔x∈A∧cU A B x.id=false:=by
 unfold o3;rw[er,zh5];simp
theorem DS (hA:Rt A)(hB:Rt B)(hn:(eo A B).length≤1000):∃ ss,gY A (eo A B)=((0,0),B,ss):=by
 unfold gY;rw[zg1 oM,hA.check,zg1 dO,hA.canon];unfold eo;have d:part A (fun _=>true)=A:=zR fun _ _=>rfl;obtain ⟨j,g⟩:=sa hA (qE (B:=B) hA) ((BV A B).map uw) (o3 A B) (p:=fun _=>true) (ss:=[]) (i:=0) (fun _ _ _ _ _=>rfl) ((zC _).imp fun h=>by omega)
  ((eO (key:=fun c:Cl=>-c.dim) _).symm.nodup<|hA.nodup.sublist List.filter_sublist) (fun x e=>by
   obtain ⟨a,b⟩:=vJ.1 e;exact⟨a,I,b⟩) (fun c hc _=>by
   cases f:cU A B c.id with
   | true=>exact .inl rfl
   | false=>exact .inr<|vJ.2 ⟨hc,f⟩) fun _ _ _=>rfl
 rw[d] at g;rw[g,vy hA hB];exact s7 hB (BV A B) (wU hA hB) (zC _) ((eO (key:=Cl.dim) _).symm.nodup<|hB.nodup.sublist List.filter_sublist) (fun x e=>zT.1 e) fun c hc f=>zT.2 ⟨hc,f⟩
theorem nu {α:Type}(p:α→Bool):∀ l:List α,(l.filter fun x=>!p x).length+(l.filter p).length=l.length
 | []=>rfl
 | x::l=>by
  have:=nu p l;simp only[zi8,ze9];cases p x <;> simp <;> omega
theorem vW (hA:Rt A)(hB:Rt B):(eo A B).length+2 * (fV A B).length=A.length+B.length:=by
 have a:=nu (fun c:Cl=>cU A B c.id) A;have b:=nu (fun c:Cl=>cU A B c.id) B;have d:(fV A B).length=(A.filter fun c=>cU A B c.id).length:=by rw[vF hA];rfl
 have e:(fV A B).length=(B.filter fun c=>cU A B c.id).length:=by rw[vF hA,vy hA hB];rfl
 unfold eo o3 BV;rw[ze6,ze7,ze7,dF,dF];omega
theorem DC (hA:Rt A)(hc:c∈A):cU A A c.id=true:=by
 rw[tO hA hc];refine zk1.2 fun id a=>?_;obtain ⟨d,hd⟩:=tY a;unfold oY;rw[hd];simp
theorem Bx (hA:Rt A):eo A A=[]:=by
 have:A.filter (fun c=>!cU A A c.id)=[]:=List.filter_eq_nil_iff.2 fun c hc=>by simp[DC hA hc]
 unfold eo o3 BV;rw[this];rfl
end Go.Proofs.YtpmoadbbfobbcaaGreatDoor
