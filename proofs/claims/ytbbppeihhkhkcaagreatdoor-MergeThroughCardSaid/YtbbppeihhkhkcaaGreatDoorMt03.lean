/- 3 -/
import Derived.Test.YtbbppeihhkhkcaaGreatDoorMt02
import Derived.Laws.Slices
import Derived.Laws.MakeOwn
import Derived.Laws.CopyRow
import Derived.Lib.AppendZeros
set_option linter.unusedSimpArgs false
set_option linter.unusedVariables false
namespace Go.Proofs.YtbbppeihhkhkcaaGreatDoor
open _root_.Go.Proofs.Tryz _root_.Go.Proofs.YtbbppeihhkhkcaaGreatDoor.Tryz
open Go Go.Sy Go.Pl Go.Proofs
set_option maxRecDepth 100000
theorem lq (E:World)(g:PH)(s:Own)(v cv:Value)(p A x B q:List ae)(hAB:A.length=B.length)(hn:(p++A++x++B++q).length<2305843009213693952)(a b n:Int)(ha:a=p.length)(hb:b=p.length+A.length+x.length)(hnn:n=A.length) :
  Ctr Tryz.prog E 301 #[v,vi a,vi b,vi n,cv] g (rowA encSide 75 v (p++A++x++B++q)::s) (fun _ g' s'=>g=g'∧s'=rowA encSide 75 v (p++B++x++A++q)::s):=by
 subst ha hb hnn;simp only[ze2] at hn;refine Ctr.facts fun ⟨w0,hw0⟩=>?_;obtain ⟨pp0,cc0,rfl⟩:=ah (i:=0) hw0 rfl;have hbase:A≠[]→based (.slice pp0 (p++A++x++B++q).length cc0)=true:=fun hne=>by
  obtain ⟨b0,c0,he⟩:=aW (i:=0) hw0 rfl (by simp; have:=List.length_pos_iff.2 hne; omega);rw[he]; rfl
 clear hw0 w0;generalize hL:(p++A++x++B++q).length=L at *;generalize hvv:Value.slice pp0 L cc0=v at *;have hsl:slen v=L:=by rw[← hvv]; rfl
 simp only[ze2] at hL;refine zb1 (args:=[v,vi p.length,vi (p.length+A.length+x.length),vi A.length,cv]) func301 I ntmps301 (bE I) ?_;refine rZ (aT I (bK ?_));refine oP (ι:=List ae×List ae×List ae×List ae) (fun i=>[(0,v),(1,vi p.length),(2,vi (p.length+A.length+x.length)),(3,vi A.length),(4,cv),(10,vi i.1.length)]) (fun _=>g)
  (fun i=>rowA encSide 75 v (p++i.2.2.1++i.2.1++x++i.1++i.2.2.2++q)::s) (fun i=>A=i.1++i.2.1∧B=i.2.2.1++i.2.2.2∧i.1.length=i.2.2.1.length) (fun i=>i.2.1.length) ([],A,[],B)
  sB rfl (by simp) ⟨rfl,rfl,rfl⟩ ?_
 rintro ⟨A1,A2,B1,B2⟩ ⟨hA,hB,h12⟩;dsimp only at hA hB h12 ⊢;have hlA:A.length=A1.length+A2.length:=by rw[hA]; simp
 have hlB:B.length=B1.length+B2.length:=by rw[hB]; simp
 refine sQ (sW I (lM I (yL I (tZ ?_))));refine iP I (fun hlt=>?_) (fun hlt=>?_)
 ·cases A2 with
  | nil=>simp at hlA; omega
  | cons ea A2 =>
  cases B2 with
  | nil=>simp at hlA hlB; omega
  | cons eb B2 =>
  simp only[ze5] at hlA hlB;have hbs:=hbase (by rw[hA]; simp);have hga:(p++B1++(ea::A2)++x++A1++(eb::B2)++q)[((p.length:Int)+(A1.length:Int)).toNat]?=some ea:=by
   have:p++B1++(ea::A2)++x++A1++(eb::B2)++q=(p++B1)++ea::(A2++x++A1++(eb::B2)++q):=by simp
   rw[this]; exact aK (by simp; omega)
  have hgb:(p++B1++(ea::A2)++x++A1++(eb::B2)++q)[((p.length:Int)+A.length+x.length+(A1.length:Int)).toNat]?=some eb:=by
   have:p++B1++(ea::A2)++x++A1++(eb::B2)++q=(p++B1++(ea::A2)++x++A1)++eb::(B2++q):=by simp
   rw[this]; exact aK (by simp; omega)
  refine kP (tN (sQ (bK ?_)));refine dW [21,23] [(0,2),(1,2),(2,2),(3,2),(4,2),(5,2),(6,2),(7,2),(8,2),(9,2),(10,2),(11,2),(12,2),(13,1),(14,2),(15,2),(16,2),(17,2),(18,2),(19,1),(20,2),(21,0),(22,2),(23,0)] zd9 kR ?_;refine yM I (yM I (yM I (pU I (aD I I oM) (yM I (yM I (yM I (pU I (aD I I oM) (yM I (yM I (yM I (pU I (aD I I oM) (pU I (iA bh aH I I hbs oM (by rw[hsl]; omega)) ?_))))))))))));refine pK I (SQ.elemA fj aH I (zb6 0 I) hgb) (yM I (yM I (yM I (pU I (aD I I oM) (pU I (iA bh aH I I hbs oM (by rw[hsl]; omega)) ?_)))));refine pK I (SQ.elemA fj aH I (zb6 0 I) hga) (pU I (iA bh aH I I hbs oM (by rw[hsl]; omega)) ?_);refine SP.on I (SO.setA (a:=eb) 0 aH I I I (by simp; omega) I) (.inl dC) ?_;rintro _ _ _ ⟨rfl,rfl⟩;refine pU I (iA bh aH I I hbs oM (by rw[hsl]; omega)) ?_;refine SP.on I (SO.setA (a:=ea) 0 aH I I I (by simp; omega) I) (.inl dC) ?_;rintro _ _ _ ⟨rfl,rfl⟩;refine pN (bN (tN (rG (lM I (yD I (lA I (nL ?_)))))));have hset:((p++B1++(ea::A2)++x++A1++(eb::B2)++q).set ((p.length:Int)+(A1.length:Int)).toNat eb).set ((p.length:Int)+A.length+x.length+(A1.length:Int)).toNat ea=p++(B1++[eb])++A2++x++(A1++[ea])++B2++q:=by
   have h1:p++B1++(ea::A2)++x++A1++(eb::B2)++q=(p++B1)++ea::(A2++x++A1++(eb::B2)++q):=by simp
   rw[h1,bw (by simp; omega)];have h2:(p++B1)++eb::(A2++x++A1++(eb::B2)++q)=(p++B1++eb::(A2++x++A1))++eb::(B2++q):=by simp
   rw[h2,bw (by simp; omega)];simp
  exact ST.again (A1++[ea],A2,B1++[eb],B2) ⟨I,I,I,I,I,aC (by simp),trivial⟩ I (by dsimp only; rw[← hset]; rfl) ⟨by simp[hA],by simp[hB],by simp[h12]⟩ (by simp)
 ·refine xI (tX (tX (bX ?_)));cases A2 with
  | cons ea A2=>simp at hlA; omega
  | nil =>
  cases B2 with
  | cons ea A2=>simp at hlA hlB; omega
  | nil =>
  exact ST.ret0 (.inr I) results301 ⟨I,by simp[hA,hB]⟩
theorem Dp (E:World)(g:PH)(s:Own)(v cv:Value)(p U V q:List ae)(hU:0<U.length)(hV:0<V.length)(hn:(p++U++V++q).length<2305843009213693952)(a m b:Int)(ha:a=p.length)(hm:m=p.length+U.length)(hb:b=p.length+U.length+V.length) :
  Ctr Tryz.prog E 292 #[v,vi a,vi m,vi b,cv] g (rowA encSide 75 v (p++U++V++q)::s) (fun _ g' s'=>g=g'∧s'=rowA encSide 75 v (p++V++U++q)::s):=by
 simp only[ze2] at hn;refine zb1 (args:=[v,vi a,vi m,vi b,cv]) func292 I ntmps292 (bE I) ?_;refine sW I (lM I (lU (sU I I oM) (aT I (sW I (lM I (lU (sU I I oM) (aT I ?_)))))));refine SC.cut (ι:=List ae×List ae×List ae×List ae) (fun i=>[(0,v),(1,vi a),(2,vi m),(3,vi b),(4,cv),(10,vi i.2.1.length),(11,vi i.2.2.1.length)]) (fun _=>g)
  (fun i=>rowA encSide 75 v (i.1++i.2.1++i.2.2.1++i.2.2.2)::s) (fun i=>p++V++U++q=i.1++i.2.2.1++i.2.1++i.2.2.2∧(m=i.1.length+i.2.1.length∧0<i.2.1.length∧i.2.1.length=i.2.2.1.length)) ?_ ?_
 ·refine bK ?_;refine oP (ι:=List ae×List ae×List ae×List ae) (fun i=>[(0,v),(1,vi a),(2,vi m),(3,vi b),(4,cv),(10,vi i.2.1.length),(11,vi i.2.2.1.length)]) (fun _=>g)
   (fun i=>rowA encSide 75 v (i.1++i.2.1++i.2.2.1++i.2.2.2)::s) (fun i=>p++V++U++q=i.1++i.2.2.1++i.2.1++i.2.2.2∧(m=i.1.length+i.2.1.length∧0<i.2.1.length∧0<i.2.2.1.length)) (fun i=>i.2.1.length+i.2.2.1.length) (p,U,V,q)
   ⟨rfl,rfl,rfl,rfl,rfl,aC lN,aC lN,trivial⟩ rfl rfl ⟨rfl,lN,hU,hV⟩ ?_
  rintro ⟨p1,U1,V1,q1⟩ ⟨heq,hm1,hU1,hV1⟩;dsimp only at heq hm1 hU1 hV1 ⊢;have hlen:p.length+V.length+U.length+q.length=p1.length+V1.length+U1.length+q1.length:=by have:=zd8 List.length heq; simp at this; omega
  refine sQ (sW I (lM I (lU (nQ I I) (tZ ?_))));refine iP I (fun hne=>?_) (fun hne=>?_)
  ·refine kP (tN (bK (sW I (lM I (lU (SU.gtr I I) (tZ ?_))))));refine iP I (fun hgt=>?_) (fun hgt=>?_)
   ·obtain ⟨Ua,Ub,hUe,hUa⟩:∃ Ua Ub,U1=Ua++Ub∧Ua.length=V1.length:=⟨U1.take V1.length,U1.drop V1.length,by simp,lN⟩;have hUl:U1.length=Ua.length+Ub.length:=by rw[hUe]; simp
    have e1:p1++U1++V1++q1=p1++Ua++Ub++V1++q1:=by rw[hUe]; simp
    rw[e1];refine sW I (lM I (lM I (lU (sU I I oM) (lM I (lM I (lM I (lW (SO.call call301 I (lq E g s v cv p1 Ua Ub V1 q1 hUa lN _ _ _ lN lN lN)) ?_)))))));rintro _ _ _ ⟨rfl,rfl⟩;refine tZ (rG (lM I (lM I (lU (sU I I oM) (lA I (nL (bN ?_)))))));exact ST.again (p1++V1,Ub,Ua,q1) ⟨I,I,I,I,I,aC lN,aC lN,trivial⟩ I (by simp) ⟨by rw[heq,hUe]; simp,lN,lN,lN⟩ lN
   ·obtain ⟨Va,Vb,hVe,hVb⟩:∃ Va Vb,V1=Va++Vb∧Vb.length=U1.length:=⟨V1.take (V1.length - U1.length),V1.drop (V1.length - U1.length),by simp,lN⟩;have hVl:V1.length=Va.length+Vb.length:=by rw[hVe]; simp
    have e1:p1++U1++V1++q1=p1++U1++Va++Vb++q1:=by rw[hVe]; simp
    rw[e1];refine sW I (lM I (lM I (lU (sU I I oM) (lM I (lM I (yD I (lM I (lU (sU I I oM) (lM I (lM I (lW (SO.call call301 I (lq E g s v cv p1 U1 Va Vb q1 hVb.symm lN _ _ _ lN lN lN)) ?_)))))))))));rintro _ _ _ ⟨rfl,rfl⟩;refine tZ (rG (lM I (lM I (lU (sU I I oM) (lA I (nL (bN ?_)))))));exact ST.again (p1,Vb,Va,U1++q1) ⟨I,I,I,I,I,aC lN,aC lN,trivial⟩ I (by simp) ⟨by rw[heq,hVe]; simp,lN,lN,lN⟩ lN
  ·refine xI (tX (tX (bX ?_)));exact za8 (p1,U1,V1,q1) sB I I ⟨heq,hm1,hU1,lN⟩
 ·rintro ⟨p1,U1,V1,q1⟩ ⟨heq,hm1,hU1,hUV⟩;dsimp only at heq hm1 hU1 hUV ⊢;have hlen:p.length+V.length+U.length+q.length=p1.length+V1.length+U1.length+q1.length:=by have:=zd8 List.length heq; simp at this; omega
  have e1:p1++U1++V1++q1=p1++U1++[]++V1++q1:=by simp
  rw[e1];refine rG (lM I (lM I (lM I (lU (sU I I oM) (lM I (lM I (lM I (lW (SO.call call301 I (lq E g s v cv p1 U1 [] V1 q1 hUV lN _ _ _ lN lN lN)) ?_))))))));rintro _ _ _ ⟨rfl,rfl⟩;refine nL ?_;exact ST.ret0 (.inr I) results292 ⟨I,by rw[heq]; simp⟩
theorem o4 (E:World)(g:PH)(s:Own)(v cv:Value)(key:ae→Int)(hc:i6 E cv encSide key g)(p m q:List ae)(hn:(p++m++q).length<2305843009213693952)(a b:Int)(ha:a=p.length)(hb:b=p.length+m.length) :
  Ctr Tryz.prog E 269 #[v,vi a,vi b,cv] g (rowA encSide 75 v (p++m++q)::s) (fun _ g' s'=>g=g'∧∃ m',aw key m m'∧Srt key m'∧s'=rowA encSide 75 v (p++m'++q)::s):=by
 refine Ctr.facts fun ⟨w0,hw0⟩=>?_;have hbase:m≠[]→based v=true:=fun hne=>by
  obtain ⟨b0,c0,he⟩:=aW (i:=0) hw0 rfl (by simp; have:=List.length_pos_iff.2 hne; omega);rw[he]; rfl
 have hsl:slen v=(p++m++q).length:=by
  obtain ⟨pp0,cc0,he⟩:=ah (i:=0) hw0 rfl;rw[he]; rfl
 clear hw0 w0;simp only[ze2] at hn hsl;refine zb1 (args:=[v,vi a,vi b,cv]) func269 I ntmps269 (bE I) ?_;refine sW I (yD I (aT I (bK ?_)));refine oP (ι:=List ae×List ae×List ae) (fun i=>[(0,v),(1,vi a),(2,vi b),(3,cv),(8,vi (p.length+1+i.1.length))]) (fun _=>g)
  (fun i=>rowA encSide 75 v (p++(i.2.1++i.2.2)++q)::s) (fun i=>Srt key i.2.1∧aw key m (i.2.1++i.2.2)∧(i.2.1.length=i.1.length+1∨(m=[]∧i.1=[]))) (fun i=>i.2.2.length) ([],m.take 1,m.drop 1)
  ⟨rfl,rfl,rfl,rfl,aC (by simp; omega),trivial⟩ rfl (by rw[zi8]) ⟨by cases m with | nil=>exact Srt.nil | cons x r=>exact Srt.one x,by rw[zi8]; exact aw.refl m,by cases m with | nil=>exact .inr ⟨I,I⟩ | cons x r=>exact .inl (by simp)⟩ ?_
 rintro ⟨cn,S1,T1⟩ ⟨hs1,hst,hcn⟩;dsimp only at hs1 hst hcn ⊢;have hlm:S1.length+T1.length=m.length:=by have:=hst.1; simpa using this
 refine sQ (sW I (lM I (yL I (tZ ?_))));refine iP I (fun hlt=>?_) (fun hlt=>?_)
 ·have hcn1:S1.length=cn.length+1:=by
   rcases hcn with h | ⟨h,h'⟩
   ·exact h
   ·rw[h] at hb; simp at hb; omega
  cases T1 with
  | nil=>simp at hlm; omega
  | cons x T1 =>
  simp only[ze5] at hlm;have hbs:=hbase (by intro e; rw[e] at hlm; simp at hlm);refine kP (tN ?_);refine SC.cut (ι:=List ae×List ae) (fun i=>[(0,v),(1,vi a),(2,vi b),(3,cv),(8,vi (p.length+1+cn.length))]) (fun _=>g)
   (fun i=>rowA encSide 75 v (p++(i.1++x::i.2++T1)++q)::s) (fun i=>S1=i.1++i.2∧(∀ y∈i.1,key y≤key x)∧(∀ y∈i.2,key x<key y)) ?_ ?_
  ·refine bK (sW I (aT I (bK ?_)));refine oP (ι:=List ae×List ae) (fun i=>[(0,v),(1,vi a),(2,vi b),(3,cv),(8,vi (p.length+1+cn.length)),(9,vi (p.length+i.1.length))]) (fun _=>g)
    (fun i=>rowA encSide 75 v (p++(i.1++x::i.2++T1)++q)::s) (fun i=>S1=i.1++i.2∧(∀ y∈i.2,key x<key y)) (fun i=>i.1.length) (S1,[])
    ⟨rfl,rfl,rfl,rfl,rfl,aC (by rw[hcn1]; simp; omega),trivial⟩ rfl (by simp) ⟨by simp,by simp⟩ ?_
   rintro ⟨A,B⟩ ⟨hS,hB⟩;dsimp only at hS hB ⊢;have hlS:S1.length=A.length+B.length:=by rw[hS]; simp
   have hgx:(p++(A++x::B++T1)++q)[((p.length:Int)+A.length).toNat]?=some x:=by
    have:p++(A++x::B++T1)++q=(p++A)++x::(B++T1++q):=by simp
    rw[this]; exact aK (by simp; omega)
   rcases List.eq_nil_or_concat A with hA0 | ⟨A0,y,hA0⟩
   ·subst hA0;refine sQ ?_;refine SC.cutB 34 (false) ?_ ?_
    ·refine dW [] [(0,2),(1,2),(2,2),(3,2),(4,2),(5,2),(6,2),(7,2),(8,1),(9,2),(10,2),(11,2),(12,2),(13,1),(14,0),(15,2),(16,2)] zd9 kR ?_;refine yM I (yM I (pU I (SU.gtr I I) (yM I ?_)));refine SP.split ?_ ?_
     ·intro h21;exfalso;simp at h21; omega
     ·intro h21;refine yG I (yG I (yG I (yG I (yI I (yG I (yG I (yG I (yG I (yI I (fO I (gZ I I I dC) dC ⟨by exact zb8 _,(by exact .refl _)⟩ ?_))))))))));refine yG I (pU I (wF I I) (pN ?_));exact za9 (I) mI
    refine cF I (xI (tX (tX (bX (bN ?_)))));exact za8 ([],B) sB I I ⟨hS,by simp,hB⟩
   ·rw[List.concat_eq_append] at hA0;have hAl:A.length=A0.length+1:=by rw[hA0]; simp
    have hgy:(p++(A++x::B++T1)++q)[((p.length:Int)+A.length - 1).toNat]?=some y:=by
     have:p++(A++x::B++T1)++q=(p++A0)++y::(x::B++T1++q):=by rw[hA0]; simp
     rw[this]; exact aK lN
    refine sQ ?_;refine SC.cutB 34 (decide (key x<key y)) ?_ ?_
    ·refine dW [] [(0,2),(1,2),(2,2),(3,2),(4,2),(5,2),(6,2),(7,2),(8,1),(9,2),(10,2),(11,2),(12,2),(13,1),(14,0),(15,2),(16,2)] zd9 kR ?_;refine yM I (yM I (pU I (SU.gtr I I) (yM I ?_)));refine SP.split ?_ ?_
     ·intro h21;refine yJ I (yJ I (yJ I (zb2 I (gT I I I dC) (iA bh aH I I hbs oM (by rw[hsl]; omega)) dC ?_)));refine SP.gq I (gT I I I dC) (SQ.elemA fj aH I (zb6 0 I) hgx) dC (yJ I (yJ I (zb2 I (gT I I I dC) (sU I I oM) dC (zb2 I (gT I I I dC) (iA bh aH I I hbs oM (by rw[hsl]; omega)) dC ?_))));refine SP.gq I (gT I I I dC) (SQ.elemA fj aH I (zb6 0 I) hgy) dC (SP.go I (gT I I I dC) (SO.callV I I (hc _ _ _ _ (zb8 _))) dC (.inr iR) ?_);rintro _ _ _ ⟨rfl,rfl,rfl⟩;refine zb2 I (gT I I I dC) (lS I I) dC (pU I (wT I I) (pN ?_));exact za9 (by rw[decide_eq_decide.2 (cc (x:=key x) (y:=key y))]; rfl) mI
     ·intro h21;exfalso;omega
    refine iP I (fun hxy=>?_) (fun hxy=>?_)
    ·refine kP (tN (sQ (bK ?_)));refine dW [15,17] [(0,2),(1,2),(2,2),(3,2),(4,2),(5,2),(6,2),(7,2),(8,2),(9,1),(10,2),(11,2),(12,2),(13,1),(14,2),(15,0),(16,2),(17,0)] zd9 kR ?_;refine yM I (yM I (yM I (yM I (pU I (sU I I oM) (yM I (yM I (pU I (sU I I oM) (pU I (iA bh aH I I hbs oM (by rw[hsl]; omega)) ?_))))))));refine pK I (SQ.elemA fj aH I (zb6 0 I) hgy) (yM I (yM I (pU I (iA bh aH I I hbs oM (by rw[hsl]; omega)) ?_)));refine pK I (SQ.elemA fj aH I (zb6 0 I) hgx) (pU I (iA bh aH I I hbs oM (by rw[hsl]; omega)) ?_);refine SP.on I (SO.setA (a:=y) 0 aH I I I lN I) (.inl dC) ?_;rintro _ _ _ ⟨rfl,rfl⟩;refine pU I (iA bh aH I I hbs oM (by rw[hsl]; omega)) ?_;refine SP.on I (SO.setA (a:=x) 0 aH I I I (by rw[zh9]; (first | with_reducible rfl | ((try dsimp only); (try simp only[ze2,ze5,zc3,ze4,ze1,ze6])<;>omega))) rfl) (.inl dC) ?_;rintro _ _ _ ⟨rfl,rfl⟩;refine pN (bN (tN (rG (lM I (lU (sU I I oM) (lA I (nL ?_)))))));have hset:((p++(A++x::B++T1)++q).set ((p.length:Int)+A.length).toNat y).set ((p.length:Int)+A.length - 1).toNat x=p++(A0++x::(y::B)++T1)++q:=by
      have h1:p++(A++x::B++T1)++q=(p++A)++x::(B++T1++q):=by simp
      rw[h1,bw lN];have h2:(p++A)++y::(B++T1++q)=(p++A0)++y::(y::B++T1++q):=by rw[hA0]; simp
      rw[h2,bw lN];simp
     exact ST.again (A0,y::B) ⟨I,I,I,I,I,aC lN,trivial⟩ I (by dsimp only; rw[← hset]; rfl) ⟨by rw[hS,hA0]; simp,by simpa using ⟨hxy,hB⟩⟩ lN
    ·refine xI (tX (tX (bX (bN ?_))));exact za8 (A,B) sB I I ⟨hS,by
      intro z hz;rw[hA0] at hz hS;rw[hS] at hs1;have h1:=(Srt.append_iff.1 (Srt.append_iff.1 hs1).1).2.2
      rcases ze9.1 hz with h2 | h2
      ·exact Int.le_trans (h1 z h2 y (by simp)) oM
      ·simp at h2; rw[h2]; omega,hB⟩
  ·rintro ⟨A,B⟩ ⟨hS,hA,hB⟩;dsimp only at hS hA hB ⊢;refine rG (lM I (yD I (lA I (nL ?_))));have hlS:S1.length=A.length+B.length:=by rw[hS]; simp
   rw[hS] at hs1 hst;exact ST.again (x::cn,A++x::B,T1) ⟨I,I,I,I,aC lN,trivial⟩ I I ⟨by
     have h1:=Srt.append_iff.1 hs1;refine Srt.append_iff.2 ⟨h1.1,Srt.cons_iff.2 ⟨fun z hz=>Int.le_of_lt (hB z hz),h1.2.1⟩,fun z hz u hu=>?_⟩
     rcases ze7.1 hu with h2 | h2
     ·rw[h2]; exact hA z hz
     ·exact h1.2.2 z hz u h2,by
     refine hst.trans ?_;have h1:aw key (B++[x]) ([x]++B):=aw.swap (fun z hz u hu=>by simp at hu; subst hu; have:=hB z hz; omega);have h2:=aw.append (aw.append (aw.refl (key:=key) A) h1) (aw.refl (key:=key) T1);simpa using h2,.inl lN⟩ lN
 ·refine xI (tX (tX (bX ?_)));have hT:T1=[]:=by
   rcases hcn with h | ⟨h,h'⟩
   ·exact zf1 oM
   ·subst h; simp at hlm; exact hlm.2
  subst hT;exact ST.ret0 (.inr I) results269 ⟨I,S1,by simpa using hst,hs1,by simp⟩
theorem zF {key:ae→Int}{V1 M1 M2 V2:List ae}{x y:ae}(hs:Srt key (V1++(M1++y::M2)++V2))(h1:∀ z∈V1,key z<key x)(hy:key y<key x):∀ z∈V1++M1++[y],key z<key x:=by
 intro z hz;have h2:=(Srt.append_iff.1 (Srt.append_iff.1 (Srt.append_iff.1 hs).1).2.1).2.2;simp only[ze9,zh4] at hz
 rcases hz with (hz | hz) | hz
 ·exact h1 z hz
 ·have:=h2 z hz y (by simp); omega
 ·rw[hz]; exact hy
theorem wH {key:ae→Int}{V1 M1 M2 V2:List ae}{x y:ae}(hs:Srt key (V1++(M1++y::M2)++V2))(h1:∀ z∈V2,key x≤key z)(hy:key x≤key y):∀ z∈(y::M2)++V2,key x≤key z:=by
 intro z hz;have h2:=(Srt.append_iff.1 (Srt.append_iff.1 (Srt.append_iff.1 hs).1).2.1).2.1;simp only[ze9,ze7] at hz
 rcases hz with (hz | hz) | hz
 ·rw[hz]; exact hy
 ·have:=(Srt.cons_iff.1 h2).1 z hz; omega
 ·exact h1 z hz
theorem nO {α:Type}(M:List α)(h:M≠[]):∃ M1 y M2,M=M1++y::M2∧M1.length=M.length / 2:=by
 have hl:=List.length_pos_iff.2 h;have hlt:M.length / 2<M.length:=oM;exact⟨M.take (M.length / 2),M[M.length / 2],M.drop (M.length / 2+1),by simp,by rw[ze1]; omega⟩
set_option maxHeartbeats 1000000 in
theorem C6 (E:World)(g:PH)(s:Own)(v cv:Value)(key:ae→Int)(hc:i6 E cv encSide key g)(p V q:List ae)(x:ae)(hsV:Srt key V)(hn:(p++[x]++V++q).length<2305843009213693952)
  (a m b:Int) (ha:a=p.length) (hm:m=p.length+1) (hb:b=p.length+1+V.length) :
  Ctr Tryz.prog E 270 #[v,vi a,vi m,vi b,cv] g (rowA encSide 75 v (p++[x]++V++q)::s) (fun _ g' s'=>g=g'∧∃ W,aw key ([x]++V) W∧Srt key W∧s'=rowA encSide 75 v (p++W++q)::s):=by
 refine Ctr.facts fun ⟨w0,hw0⟩=>?_;have hbs:based v=true:=by
  obtain ⟨b0,c0,he⟩:=aW (i:=0) hw0 rfl lN;rw[he]; rfl
 have hsl:slen v=(p++[x]++V++q).length:=by
  obtain ⟨pp0,cc0,he⟩:=ah (i:=0) hw0 rfl;rw[he]; rfl
 clear hw0 w0;simp only[ze2,ze4] at hn hsl;have hgx:(p++[x]++V++q)[a.toNat]?=some x:=by
  have:p++[x]++V++q=p++x::(V++q):=by simp
  rw[this]; exact aK oM
 refine zb1 (args:=[v,vi a,vi m,vi b,cv]) func270 I ntmps270 (bE I) ?_;refine sQ (sW I (lM I (lU (sU I I oM) (yE I (tZ ?_)))));refine iP I (fun h1=>?_) (fun h1=>?_)
 ·refine sW I (aT I (sW I (aT I ?_)));refine SC.cut (ι:=List ae×List ae) (fun i=>[(0,v),(1,vi a),(2,vi m),(3,vi b),(4,cv),(10,vi (m+i.1.length))]) (fun _=>g) (fun _=>rowA encSide 75 v (p++[x]++V++q)::s)
   (fun i=>V=i.1++i.2∧(∀ y∈i.1,key y<key x)∧(∀ y∈i.2,key x≤key y)) ?_ ?_
  ·refine bK ?_;refine oP (ι:=List ae×List ae×List ae) (fun i=>[(0,v),(1,vi a),(2,vi m),(3,vi b),(4,cv),(10,vi (m+i.1.length)),(11,vi (m+i.1.length+i.2.1.length))]) (fun _=>g) (fun _=>rowA encSide 75 v (p++[x]++V++q)::s)
    (fun i=>V=i.1++i.2.1++i.2.2∧(∀ y∈i.1,key y<key x)∧(∀ y∈i.2.2,key x≤key y)) (fun i=>i.2.1.length) ([],V,[])
    ⟨rfl,rfl,rfl,rfl,rfl,aC lN,aC lN,trivial⟩ rfl rfl ⟨by simp,by simp,by simp⟩ ?_
   rintro ⟨V1,M,V2⟩ ⟨hV,hlo,hhi⟩;dsimp only at hV hlo hhi ⊢;have hVl:V.length=V1.length+M.length+V2.length:=by rw[hV]; (first | with_reducible rfl | ((try dsimp only); (try simp only[ze2,ze5,zc3,ze4,ze1,ze6])<;>omega))
   refine sQ (sW I (lM I (yL I (tZ ?_))));refine iP I (fun hlt=>?_) (fun hlt=>?_)
   ·obtain ⟨M1,y,M2,hM,hM1⟩:=nO M (by intro e; rw[e] at hlt; simp at hlt);have hMl:M.length=M1.length+1+M2.length:=by rw[hM]; simp; omega
    have hgy:(p++[x]++V++q)[((m+V1.length+(m+V1.length+M.length)) / 2).toNat]?=some y:=by
     have:p++[x]++V++q=(p++[x]++V1++M1)++y::(M2++V2++q):=by rw[hV,hM]; simp
     rw[this]; exact aK lN
    rw[hM] at hV;rw[hV] at hsV;refine kP (tN (bK (sW I (lM I (yD I (lU (zd7 uT3 eV I) (lU (SU.shr I I dC) (lU (SU.eq (zd7 eV uT3 I) (zd8 vi (fg _ oM oM))) (aT I (sQ ?_))))))))));refine dW [] [(0,2),(1,2),(2,2),(3,2),(4,1),(5,2),(6,2),(7,2),(8,1),(9,0),(10,2)] zd9 kR ?_;refine yM I (yM I (yM I (pU I (iA bh aH I I hbs oM (by rw[hsl]; omega)) ?_)));refine pK I (SQ.elemA fj aH I (zb6 0 I) hgy) (yM I (yM I (pU I (iA bh aH I I hbs oM (by rw[hsl]; omega)) ?_)));refine pK I (SQ.elemA fj aH I (zb6 0 I) hgx) (SP.o I (SO.callV I I (hc _ _ _ _ (zb8 _))) dC (.inr iR) ?_);rintro _ _ _ ⟨rfl,rfl,rfl⟩;refine pU I (lS I I) (pN (tN ?_));refine iP I (fun hyx=>?_) (fun hyx=>?_)
    ·refine rG (lM I (yD I (lA I (nL (bN ?_)))));exact ST.again (V1++M1++[y],M2,V2) ⟨I,I,I,I,I,aC lN,aC lN,trivial⟩ I I ⟨by rw[hV]; simp,zF hsV hlo (cc.1 hyx),hhi⟩ lN
    ·refine rG (lM I (lA I (nL (bN ?_))));exact ST.again (V1,M1,(y::M2)++V2) ⟨I,I,I,I,I,I,aC lN,trivial⟩ I I ⟨by rw[hV]; simp,hlo,wH hsV hhi (by have:=mt cc.2 hyx; omega)⟩ lN
   ·refine xI (tX (tX (bX ?_)));have hM:M=[]:=zf1 oM;subst hM;exact za8 (V1,V2) sB I I ⟨by simpa using hV,hlo,hhi⟩
  ·rintro ⟨V1,V2⟩ ⟨hV,hlo,hhi⟩;dsimp only at hV hlo hhi ⊢;have hVl:V.length=V1.length+V2.length:=by rw[hV]; simp
   refine sQ (sW I (aT I (bK ?_)));refine oP (ι:=List ae×List ae) (fun i=>[(0,v),(1,vi a),(2,vi m),(3,vi b),(4,cv),(10,vi (m+V1.length)),(13,vi (a+i.1.length))]) (fun _=>g) (fun i=>rowA encSide 75 v (p++i.1++x::i.2++V2++q)::s)
    (fun i=>V1=i.1++i.2) (fun i=>i.2.length) ([],V1)
    ⟨rfl,rfl,rfl,rfl,rfl,rfl,aC lN,trivial⟩ rfl (by rw[hV]; simp) (by simp) ?_
   rintro ⟨A,B⟩ hA;dsimp only at hA ⊢;have hAl:V1.length=A.length+B.length:=by rw[hA]; simp
   refine sQ (sW I (lM I (lU (sU I I oM) (yL I (tZ ?_)))));refine iP I (fun hlt=>?_) (fun hlt=>?_)
   ·cases B with
    | nil=>simp at hAl; omega
    | cons y B =>
    simp only[ze5] at hAl;have hg1:(p++A++x::(y::B)++V2++q)[(a+A.length).toNat]?=some x:=by
     have:p++A++x::(y::B)++V2++q=(p++A)++x::(y::B++V2++q):=by simp
     rw[this]; exact aK lN
    have hg2:(p++A++x::(y::B)++V2++q)[(a+A.length+1).toNat]?=some y:=by
     have:p++A++x::(y::B)++V2++q=(p++A++[x])++y::(B++V2++q):=by simp
     rw[this]; exact aK lN
    refine kP (tN (sQ (bK ?_)));refine dW [15,17] [(0,2),(1,2),(2,2),(3,2),(4,2),(5,2),(6,2),(7,2),(8,2),(9,1),(10,2),(11,2),(12,2),(13,1),(14,2),(15,0),(16,2),(17,0)] zd9 kR ?_;refine yM I (yM I (yM I (yM I (pU I (aD I I oM) (yM I (yM I (pU I (aD I I oM) (pU I (iA bh aH I I hbs oM (by rw[hsl]; omega)) ?_))))))));refine pK I (SQ.elemA fj aH I (zb6 0 I) hg2) (yM I (yM I (pU I (iA bh aH I I hbs oM (by rw[hsl]; omega)) ?_)));refine pK I (SQ.elemA fj aH I (zb6 0 I) hg1) (pU I (iA bh aH I I hbs oM (by rw[hsl]; omega)) ?_);refine SP.on I (SO.setA (a:=y) 0 aH I I I lN I) (.inl dC) ?_;rintro _ _ _ ⟨rfl,rfl⟩;refine pU I (iA bh aH I I hbs oM (by rw[hsl]; omega)) ?_;refine SP.on I (SO.setA (a:=x) 0 aH I I I (by rw[zh9]; (first | with_reducible rfl | ((try dsimp only); (try simp only[ze2,ze5,zc3,ze4,ze1,ze6])<;>omega))) rfl) (.inl dC) ?_;rintro _ _ _ ⟨rfl,rfl⟩;refine pN (bN (tN (rG (lM I (yD I (lA I (nL ?_)))))));have hset:((p++A++x::(y::B)++V2++q).set (a+A.length).toNat y).set (a+A.length+1).toNat x=p++(A++[y])++x::B++V2++q:=by
     have e1:p++A++x::(y::B)++V2++q=(p++A)++x::(y::B++V2++q):=by simp
     rw[e1,bw lN];have e2:(p++A)++y::(y::B++V2++q)=(p++A++[y])++y::(B++V2++q):=by simp
     rw[e2,bw lN];simp
    exact ST.again (A++[y],B) ⟨I,I,I,I,I,I,aC lN,trivial⟩ I (by dsimp only; rw[← hset]; rfl) (by rw[hA]; simp) lN
   ·refine xI (tX (tX (bX (tN (rE (tR ?_))))));have hB:B=[]:=zf1 oM;subst hB;have hA':A=V1:=by simpa using hA.symm
    subst hA';exact ST.ret0 (.inl I) results270 ⟨I,A++x::V2,by
     rw[hV];have h1:=aw.append (aw.swap (key:=key) (a:=[x]) (b:=A) (fun z hz u hu=>by simp at hz; subst hz; have:=hlo u hu; omega)) (aw.refl (key:=key) V2);simpa using h1,by
     rw[hV] at hsV;obtain ⟨h1,h2,h3⟩:=Srt.append_iff.1 hsV;exact Srt.append_iff.2 ⟨h1,Srt.cons_iff.2 ⟨hhi,h2⟩,fun z hz u hu=>by
      rcases ze7.1 hu with e | e
      ·rw[e]; exact Int.le_of_lt (hlo z hz)
      ·exact h3 z hz u e⟩,by simp⟩
 ·omega
set_option maxHeartbeats 1000000 in
theorem Bi (E:World)(g:PH)(s:Own)(v cv:Value)(key:ae→Int)(hc:i6 E cv encSide key g)(p U q:List ae)(y:ae)(hsU:Srt key U)(hU1:1<U.length)(hn:(p++U++[y]++q).length<2305843009213693952)
  (a m b:Int) (ha:a=p.length) (hm:m=p.length+U.length) (hb:b=p.length+U.length+1) :
  Ctr Tryz.prog E 270 #[v,vi a,vi m,vi b,cv] g (rowA encSide 75 v (p++U++[y]++q)::s) (fun _ g' s'=>g=g'∧∃ W,aw key (U++[y]) W∧Srt key W∧s'=rowA encSide 75 v (p++W++q)::s):=by
 refine Ctr.facts fun ⟨w0,hw0⟩=>?_;have hbs:based v=true:=by
  obtain ⟨b0,c0,he⟩:=aW (i:=0) hw0 rfl lN;rw[he]; rfl
 have hsl:slen v=(p++U++[y]++q).length:=by
  obtain ⟨pp0,cc0,he⟩:=ah (i:=0) hw0 rfl;rw[he]; rfl
 clear hw0 w0;simp only[ze2,ze4] at hn hsl;have hgy:(p++U++[y]++q)[m.toNat]?=some y:=by
  have:p++U++[y]++q=(p++U)++y::q:=by simp
  rw[this]; exact aK lN
 refine zb1 (args:=[v,vi a,vi m,vi b,cv]) func270 I ntmps270 (bE I) ?_;refine sQ (sW I (lM I (lU (sU I I oM) (yE I (tZ ?_)))));refine iP I (fun h1=>?_) (fun h1=>?_)
 ·omega
 ·refine kP (tN (sQ (sW I (lM I (lU (sU I I oM) (yE I (tZ ?_)))))));refine iP I (fun h2=>?_) (fun h2=>?_)
  ·refine sW I (aT I (sW I (aT I ?_)));refine SC.cut (ι:=List ae×List ae) (fun i=>[(0,v),(1,vi a),(2,vi m),(3,vi b),(4,cv),(14,vi (a+i.1.length))]) (fun _=>g) (fun _=>rowA encSide 75 v (p++U++[y]++q)::s)
    (fun i=>U=i.1++i.2∧(∀ z∈i.1,key z≤key y)∧(∀ z∈i.2,key y<key z)) ?_ ?_
   ·refine bK ?_;refine oP (ι:=List ae×List ae×List ae) (fun i=>[(0,v),(1,vi a),(2,vi m),(3,vi b),(4,cv),(14,vi (a+i.1.length)),(15,vi (a+i.1.length+i.2.1.length))]) (fun _=>g) (fun _=>rowA encSide 75 v (p++U++[y]++q)::s)
     (fun i=>U=i.1++i.2.1++i.2.2∧(∀ z∈i.1,key z≤key y)∧(∀ z∈i.2.2,key y<key z)) (fun i=>i.2.1.length) ([],U,[])
     ⟨rfl,rfl,rfl,rfl,rfl,aC lN,aC lN,trivial⟩ rfl rfl ⟨by simp,by simp,by simp⟩ ?_
    rintro ⟨U1,M,U2⟩ ⟨hU,hlo,hhi⟩;dsimp only at hU hlo hhi ⊢;have hUl:U.length=U1.length+M.length+U2.length:=by rw[hU]; (first | with_reducible rfl | ((try dsimp only); (try simp only[ze2,ze5,zc3,ze4,ze1,ze6])<;>omega))
    refine sQ (sW I (lM I (yL I (tZ ?_))));refine iP I (fun hlt=>?_) (fun hlt=>?_)
    ·obtain ⟨M1,z,M2,hM,hM1⟩:=nO M (by intro e; rw[e] at hlt; simp at hlt);have hMl:M.length=M1.length+1+M2.length:=by rw[hM]; simp; omega
     have hgz:(p++U++[y]++q)[((a+U1.length+(a+U1.length+M.length)) / 2).toNat]?=some z:=by
      have:p++U++[y]++q=(p++U1++M1)++z::(M2++U2++[y]++q):=by rw[hU,hM]; simp
      rw[this]; exact aK lN
     rw[hM] at hU;rw[hU] at hsU;have hs3:=Srt.append_iff.1 (Srt.append_iff.1 (Srt.append_iff.1 hsU).1).2.1;refine kP (tN (bK (sW I (lM I (yD I (lU (zd7 uT3 eV I) (lU (SU.shr I I dC) (lU (SU.eq (zd7 eV uT3 I) (zd8 vi (fg _ oM oM))) (aT I (sQ ?_))))))))));refine dW [] [(0,2),(1,2),(2,2),(3,2),(4,1),(5,2),(6,2),(7,2),(8,1),(9,0),(10,2),(11,2)] zd9 kR ?_;refine yM I (yM I (yM I (pU I (iA bh aH I I hbs oM (by rw[hsl]; omega)) ?_)));refine pK I (SQ.elemA fj aH I (zb6 0 I) hgy) (yM I (yM I (pU I (iA bh aH I I hbs oM (by rw[hsl]; omega)) ?_)));refine pK I (SQ.elemA fj aH I (zb6 0 I) hgz) (SP.o I (SO.callV I I (hc _ _ _ _ (zb8 _))) dC (.inr iR) ?_);rintro _ _ _ ⟨rfl,rfl,rfl⟩;refine pU I (lS I I) (pU I (SU.notP I) (pN (tN ?_)));refine iP I (fun hyz=>?_) (fun hyz=>?_)
     ·refine rG (lM I (yD I (lA I (nL (bN ?_)))));have hzy:key z≤key y:=by have:=mt cc.2 hyz; omega
      exact ST.again (U1++M1++[z],M2,U2) ⟨I,I,I,I,I,aC lN,aC lN,trivial⟩ I I ⟨by rw[hU]; simp,by
       intro u hu;simp only[ze9,zh4] at hu
       rcases hu with (hu | hu) | hu
       ·exact hlo u hu
       ·have:=hs3.2.2 u hu z (by simp); omega
       ·rw[hu]; exact hzy,hhi⟩ lN
     ·refine rG (lM I (lA I (nL (bN ?_))));have hzy:key y<key z:=cc.1 (zg6 hyz);exact ST.again (U1,M1,(z::M2)++U2) ⟨I,I,I,I,I,I,aC lN,trivial⟩ I I ⟨by rw[hU]; simp,hlo,by
       intro u hu;simp only[ze9,ze7] at hu
       rcases hu with (hu | hu) | hu
       ·rw[hu]; exact hzy
       ·have:=(Srt.cons_iff.1 hs3.2.1).1 u hu; omega
       ·exact hhi u hu⟩ lN
    ·refine xI (tX (tX (bX ?_)));have hM:M=[]:=zf1 oM;subst hM;exact za8 (U1,U2) sB I I ⟨by simpa using hU,hlo,hhi⟩
   ·rintro ⟨U1,U2⟩ ⟨hU,hlo,hhi⟩;dsimp only at hU hlo hhi ⊢;have hUl:U.length=U1.length+U2.length:=by rw[hU]; simp
    refine sQ (sW I (aT I (bK ?_)));refine oP (ι:=List ae×List ae) (fun i=>[(0,v),(1,vi a),(2,vi m),(3,vi b),(4,cv),(14,vi (a+U1.length)),(17,vi (a+U1.length+i.1.length))]) (fun _=>g) (fun i=>rowA encSide 75 v (p++U1++i.1++y::i.2++q)::s)
     (fun i=>U2=i.1++i.2) (fun i=>i.1.length) (U2,[])
     ⟨rfl,rfl,rfl,rfl,rfl,rfl,aC lN,trivial⟩ rfl (by rw[hU]; simp) (by simp) ?_
    rintro ⟨A,B⟩ hA;dsimp only at hA ⊢;have hAl:U2.length=A.length+B.length:=by rw[hA]; simp
    refine sQ (sW I (lM I (lU (SU.gtr I I) (tZ ?_))));refine iP I (fun hlt=>?_) (fun hlt=>?_)
    ·rcases List.eq_nil_or_concat A with hA0 | ⟨A0,z,hA0⟩
     ·rw[hA0] at hlt; simp at hlt
     rw[List.concat_eq_append] at hA0;have hA0l:A.length=A0.length+1:=by rw[hA0]; simp
     have hg1:(p++U1++A++y::B++q)[(a+U1.length+A.length).toNat]?=some y:=by
      have:p++U1++A++y::B++q=(p++U1++A)++y::(B++q):=by simp
      rw[this]; exact aK lN
     have hg2:(p++U1++A++y::B++q)[(a+U1.length+A.length - 1).toNat]?=some z:=by
      have:p++U1++A++y::B++q=(p++U1++A0)++z::(y::B++q):=by rw[hA0]; simp
      rw[this]; exact aK lN
     refine kP (tN (sQ (bK ?_)));refine dW [15,17] [(0,2),(1,2),(2,2),(3,2),(4,2),(5,2),(6,2),(7,2),(8,2),(9,1),(10,2),(11,2),(12,2),(13,1),(14,2),(15,0),(16,2),(17,0)] zd9 kR ?_;refine yM I (yM I (yM I (yM I (pU I (sU I I oM) (yM I (yM I (pU I (sU I I oM) (pU I (iA bh aH I I hbs oM (by rw[hsl]; omega)) ?_))))))));refine pK I (SQ.elemA fj aH I (zb6 0 I) hg2) (yM I (yM I (pU I (iA bh aH I I hbs oM (by rw[hsl]; omega)) ?_)));refine pK I (SQ.elemA fj aH I (zb6 0 I) hg1) (pU I (iA bh aH I I hbs oM (by rw[hsl]; omega)) ?_);refine SP.on I (SO.setA (a:=z) 0 aH I I I lN I) (.inl dC) ?_;rintro _ _ _ ⟨rfl,rfl⟩;refine pU I (iA bh aH I I hbs oM (by rw[hsl]; omega)) ?_;refine SP.on I (SO.setA (a:=y) 0 aH I I I (by rw[zh9]; (first | with_reducible rfl | ((try dsimp only); (try simp only[ze2,ze5,zc3,ze4,ze1,ze6])<;>omega))) rfl) (.inl dC) ?_;rintro _ _ _ ⟨rfl,rfl⟩;refine pN (bN (tN (rG (lM I (lU (sU I I oM) (lA I (nL ?_)))))));have hset:((p++U1++A++y::B++q).set (a+U1.length+A.length).toNat z).set (a+U1.length+A.length - 1).toNat y=p++U1++A0++y::(z::B)++q:=by
      have e1:p++U1++A++y::B++q=(p++U1++A)++y::(B++q):=by simp
      rw[e1,bw lN];have e2:(p++U1++A)++z::(B++q)=(p++U1++A0)++z::(z::B++q):=by rw[hA0]; simp
      rw[e2,bw lN];simp
     exact ST.again (A0,z::B) ⟨I,I,I,I,I,I,aC lN,trivial⟩ I (by dsimp only; rw[← hset]; rfl) (by rw[hA,hA0]; simp) lN
    ·refine xI (tX (tX (bX (tN (rE (tR ?_))))));have hA0:A=[]:=zf1 oM;subst hA0;have hB':B=U2:=by simpa using hA.symm
     subst hB';exact ST.ret0 (.inl I) results270 ⟨I,U1++y::B,by
      rw[hU];have h1:=aw.append (aw.refl (key:=key) U1) (aw.swap (key:=key) (a:=B) (b:=[y]) (fun z hz u hu=>by simp at hu; subst hu; have:=hhi z hz; omega));simpa using h1,by
      rw[hU] at hsU;obtain ⟨h1,h2,h3⟩:=Srt.append_iff.1 hsU;exact Srt.append_iff.2 ⟨h1,Srt.cons_iff.2 ⟨fun z hz=>Int.le_of_lt (hhi z hz),h2⟩,fun z hz u hu=>by
       rcases ze7.1 hu with e | e
       ·rw[e]; exact hlo z hz
       ·exact h3 z hz u e⟩,by simp⟩
  ·omega
def PTS (key:ae→Int)(U V:List ae)(i j:Int):Prop:=∃ x y,U[i.toNat]?=some x∧V[j.toNat]?=some y∧key y<key x
def PFS (key:ae→Int)(U V:List ae)(i j:Int):Prop:=∃ x y,U[i.toNat]?=some x∧V[j.toNat]?=some y∧key x≤key y
theorem mq {key:ae→Int}{l:List ae}(hs:Srt key l){i j:Nat}{x y:ae}(hi:l[i]?=some x)(hj:l[j]?=some y)(h:i≤j):key x≤key y:=by
 obtain ⟨h1,rfl⟩:=zf2.1 hi;obtain ⟨h2,rfl⟩:=zf2.1 hj
 rcases Nat.lt_or_eq_of_le h with h3 | h3
 ·exact zc8.1 hs i j h1 h2 h3
 ·subst h3; exact Int.le_refl _
theorem C4 {key:ae→Int}{U V:List ae}(hU:Srt key U)(hV:Srt key V){i j:Nat}(h:PTS key U V i (j - 1))(hj:0<j):∀ x∈U.drop i,∀ y∈V.take j,key y<key x:=by
 obtain ⟨x0,y0,h1,h2,h3⟩:=h;intro x hx y hy;obtain ⟨k1,hk1⟩:=List.mem_iff_getElem?.1 hx;obtain ⟨k2,hk2⟩:=List.mem_iff_getElem?.1 hy;rw[zh8] at hk1;rw[zh7] at hk2;split at hk2
 ·have e1:=mq hU h1 hk1 oM;have e2:=mq hV hk2 h2 oM;omega
 ·cases hk2
theorem C2 {key:ae→Int}{U V:List ae}(hU:Srt key U)(hV:Srt key V){i j:Nat}(h:PFS key U V (i - 1) j)(hi:0<i):∀ x∈U.take i,∀ y∈V.drop j,key x≤key y:=by
 obtain ⟨x0,y0,h1,h2,h3⟩:=h;intro x hx y hy;obtain ⟨k1,hk1⟩:=List.mem_iff_getElem?.1 hx;obtain ⟨k2,hk2⟩:=List.mem_iff_getElem?.1 hy;rw[zh8] at hk2;rw[zh7] at hk1;split at hk1
 ·have e1:=mq hU hk1 h1 oM;have e2:=mq hV h2 hk2 oM;omega
 ·cases hk1
set_option maxHeartbeats 1000000 in
theorem ru (E:World)(g:PH)(v cv:Value)(key:ae→Int)(hc:i6 E cv encSide key g):∀ (n:Nat) (s:Own) (p U V q:List ae) (_:U.length+V.length=n) (hsU:Srt key U) (hsV:Srt key V) (hU0:0<U.length) (hV0:0<V.length) (hn:(p++U++V++q).length<2305843009213693952)
  (a m b:Int) (ha:a=p.length) (hm:m=p.length+U.length) (hb:b=p.length+U.length+V.length),
  Ctr Tryz.prog E 270 #[v,vi a,vi m,vi b,cv] g (rowA encSide 75 v (p++U++V++q)::s) (fun _ g' s'=>g=g'∧∃ W,aw key (U++V) W∧Srt key W∧s'=rowA encSide 75 v (p++W++q)::s):=by
 intro n;induction n using Nat.strongRecOn with
 | _ n ih =>
 intro s p U V q hnn hsU hsV hU0 hV0 hn a m b ha hm hb;by_cases hU1:U.length=1
 ·obtain ⟨x,rfl⟩:=List.length_eq_one_iff.1 hU1;exact C6 E g s v cv key hc p V q x hsV hn a m b ha hm hb
 by_cases hV1:V.length=1
 ·obtain ⟨y,rfl⟩:=List.length_eq_one_iff.1 hV1;exact Bi E g s v cv key hc p U q y hsU oM hn a m b ha hm hb
 refine Ctr.facts fun ⟨w0,hw0⟩=>?_;have hbs:based v=true:=by
  obtain ⟨b0,c0,he⟩:=aW (i:=0) hw0 rfl lN;rw[he]; rfl
 have hsl:slen v=(p++U++V++q).length:=by
  obtain ⟨pp0,cc0,he⟩:=ah (i:=0) hw0 rfl;rw[he]; rfl
 clear hw0 w0;simp only[ze2] at hn hsl;have hgU:∀ (c:Int) (x:ae),0≤c→U[c.toNat]?=some x→(p++U++V++q)[(a+c).toNat]?=some x:=fun c x h0 hx=>by
  have hlt:=(zf2.1 hx).1;rw[zg5,zg5,zg9 oM,zg8 oM,show (a+c).toNat - p.length=c.toNat by omega];exact hx
 have hgV:∀ (c:Int) (x:ae),0≤c→V[c.toNat]?=some x→(p++U++V++q)[(m+c).toNat]?=some x:=fun c x h0 hx=>by
  have hlt:=(zf2.1 hx).1;rw[zg8 lN,zg9 lN,show (m+c).toNat - (p++U).length=c.toNat by exact lN];exact hx
 refine zb1 (args:=[v,vi a,vi m,vi b,cv]) func270 I ntmps270 (bE I) ?_;refine sQ (sW I (lM I (lU (sU I I oM) (yE I (tZ ?_)))));refine iP I (fun h1=>?_) (fun h1=>?_)
 ·omega
 refine kP (tN (sQ (sW I (lM I (lU (sU I I oM) (yE I (tZ ?_)))))));refine iP I (fun h2=>?_) (fun h2=>?_)
 ·omega
 refine kP (tN (sW I (lM I (yD I (lU (zd7 uT3 eV I) (lU (SU.shr I I dC) (lU (SU.eq (zd7 eV uT3 I) (zd8 vi (fg _ oM oM))) (aT I (sW I (lM I (yD I (aT I (rZ (lA I (aT I ?_)))))))))))))));generalize hmid:(a+b) / 2=mid;refine SC.cut (ι:=Int×Int) (fun i=>[(0,v),(1,vi a),(2,vi m),(3,vi b),(4,cv),(18,vi mid),(19,vi (mid+m)),(20,vi i.1),(21,vi i.2)]) (fun _=>g) (fun _=>rowA encSide 75 v (p++U++V++q)::s)
  (fun i=>(mid<m→i.1=mid+m - b∧i.2=mid)∧(¬ mid<m→i.1=a∧i.2=m)) ?_ ?_
 ·refine sW I (lM I (lU (SU.gtr I I) (tZ ?_)));refine iP I (fun h3=>?_) (fun h3=>?_)
  ·refine sW I (lM I (lU (sU I I oM) (aT I (rG (lM I (lA I (nL ?_)))))));exact za8 (mid+m - b,mid) sB I I ⟨fun _=>⟨I,I⟩,fun h=>absurd h3 h⟩
  ·refine sW I (aT I (rG (lM I (lA I (nL ?_)))));exact za8 (a,m) sB I I ⟨fun h=>absurd h h3,fun _=>⟨I,I⟩⟩
 rintro ⟨st0,r0⟩ ⟨hc1,hc2⟩;dsimp only at hc1 hc2 ⊢;have hb0:a≤st0∧st0≤r0∧r0≤m∧r0≤mid∧mid - st0≤V.length:=by
  by_cases h:mid<m
  ·have:=hc1 h; omega
  ·have:=hc2 h; omega
 refine sW I (lU (sU I I oM) (aT I ?_));refine SC.cut (ι:=Int) (fun i=>[(0,v),(1,vi a),(2,vi m),(3,vi b),(4,cv),(18,vi mid),(19,vi (mid+m)),(20,vi i)]) (fun _=>g) (fun _=>rowA encSide 75 v (p++U++V++q)::s)
  (fun i=>st0≤i∧i≤r0∧(i=st0∨PFS key U V (i - 1 - a) (mid - i))∧(i=r0∨PTS key U V (i - a) (mid - 1 - i))) ?_ ?_
 ·refine bK ?_;refine oP (ι:=Int×Int) (fun i=>[(0,v),(1,vi a),(2,vi m),(3,vi b),(4,cv),(18,vi mid),(19,vi (mid+m)),(20,vi i.1),(21,vi i.2),(22,vi (mid+m - 1))]) (fun _=>g) (fun _=>rowA encSide 75 v (p++U++V++q)::s)
   (fun i=>st0≤i.1∧i.1≤i.2∧i.2≤r0∧(i.1=st0∨PFS key U V (i.1 - 1 - a) (mid - i.1))∧(i.2=r0∨PTS key U V (i.2 - a) (mid - 1 - i.2))) (fun i=>(i.2 - i.1).toNat) (st0,r0)
   sB rfl rfl ⟨lN,lN,lN,.inl rfl,.inl rfl⟩ ?_
  rintro ⟨st,r⟩ ⟨hj1,hj2,hj3,hj4,hj5⟩;dsimp only at hj1 hj2 hj3 hj4 hj5 ⊢;refine sQ (sW I (lM I (yL I (tZ ?_))));refine iP I (fun hlt=>?_) (fun hlt=>?_)
  ·obtain ⟨x,hx⟩:∃ x,U[((st+r) / 2 - a).toNat]?=some x:=⟨_,List.getElem?_eq_getElem oM⟩;obtain ⟨y,hy⟩:∃ y,V[(mid - 1 - (st+r) / 2).toNat]?=some y:=⟨_,List.getElem?_eq_getElem oM⟩;have hgx:=hgU _ x oM hx;have hgy:=hgV _ y oM hy;rw[show a+((st+r) / 2 - a)=(st+r) / 2 by omega] at hgx;rw[show m+(mid - 1 - (st+r) / 2)=mid+m - 1 - (st+r) / 2 by omega] at hgy;refine kP (tN (bK (sW I (lM I (yD I (lU (zd7 uT3 eV I) (lU (SU.shr I I dC) (lU (SU.eq (zd7 eV uT3 I) (zd8 vi (fg _ oM oM))) (aT I (sQ ?_))))))))));refine dW [] [(0,2),(1,2),(2,2),(3,2),(4,2),(5,2),(6,1),(7,2),(8,2),(9,2),(10,1),(11,0),(12,2),(13,2)] zd9 kR ?_;refine yM I (yM I (yM I (yM I (pU I (sU I I oM) (pU I (iA bh aH I I hbs oM (by rw[hsl]; omega)) ?_)))));refine pK I (SQ.elemA fj aH I (zb6 0 I) hgy) (yM I (yM I (pU I (iA bh aH I I hbs oM (by rw[hsl]; omega)) ?_)));refine pK I (SQ.elemA fj aH I (zb6 0 I) hgx) (SP.o I (SO.callV I I (hc _ _ _ _ (zb8 _))) dC (.inr iR) ?_);rintro _ _ _ ⟨rfl,rfl,rfl⟩;refine pU I (lS I I) (pU I (SU.notP I) (pN (tN ?_)));refine iP I (fun hyx=>?_) (fun hyx=>?_)
   ·refine rG (lM I (yD I (lA I (nL (bN ?_)))));exact ST.again ((st+r) / 2+1,r) sB I I ⟨lN,lN,lN,.inr ⟨x,y,by
     rw[show (st+r) / 2+1 - 1 - a=(st+r) / 2 - a by omega]; exact hx,by
     rw[show mid - ((st+r) / 2+1)=mid - 1 - (st+r) / 2 by omega]; exact hy,by have:=mt cc.2 hyx; omega⟩,hj5⟩ lN
   ·refine rG (lM I (lA I (nL (bN ?_))));exact ST.again (st,(st+r) / 2) sB I I ⟨lN,lN,lN,hj4,.inr ⟨x,y,hx,hy,cc.1 (zg6 hyx)⟩⟩ lN
  ·refine xI (tX (tX (bX ?_)));have hsr:st=r:=oM;subst hsr;exact za8 st sB I I ⟨hj1,hj3,hj4,hj5⟩
 rintro st ⟨hj1,hj2,hj4,hj5⟩;try dsimp only
 -- the four pieces
 obtain ⟨i,hi⟩:∃ i:Nat,st=a+i:=⟨(st - a).toNat,oM⟩;obtain ⟨j,hj⟩:∃ j:Nat,mid=st+j:=⟨(mid - st).toNat,oM⟩;have H1:∀ x∈U.drop i,∀ y∈V.take j,key y<key x:=by
  rcases hj5 with h | h
  ·intro x hx y hy;have e1:=List.length_pos_of_mem hx;have e2:=List.length_pos_of_mem hy;simp only[ze6,ze1] at e1 e2;exfalso;by_cases hh:mid<m
   ·have:=hc1 hh; omega
   ·have:=hc2 hh; omega
  ·by_cases hj0:0<j
   ·refine C4 hsU hsV ?_ hj0;rw[show st - a=(i:Int) by omega,show mid - 1 - st=(j:Int) - 1 by omega] at h;exact h
   ·intro x hx y hy;have e2:=List.length_pos_of_mem hy;simp only[ze1] at e2;omega
 have H2:∀ x∈U.take i,∀ y∈V.drop j,key x≤key y:=by
  rcases hj4 with h | h
  ·intro x hx y hy;have e1:=List.length_pos_of_mem hx;have e2:=List.length_pos_of_mem hy;simp only[ze6,ze1] at e1 e2;exfalso;by_cases hh:mid<m
   ·have:=hc1 hh; omega
   ·have:=hc2 hh; omega
  ·by_cases hi0:0<i
   ·refine C2 hsU hsV ?_ hi0;rw[show st - 1 - a=(i:Int) - 1 by omega,show mid - st=(j:Int) by omega] at h;exact h
   ·intro x hx y hy;have e2:=List.length_pos_of_mem hx;simp only[ze1] at e2;omega
 have hil:i≤U.length:=oM;have hjl:j≤V.length:=oM;have hUe:U=U.take i++U.drop i:=(zi8 i U).symm;have hVe:V=V.take j++V.drop j:=(zi8 j V).symm;have l1:(U.take i).length=i:=lN;have l2:(U.drop i).length=U.length - i:=lN;have l3:(V.take j).length=j:=lN;have l4:(V.drop j).length=V.length - j:=lN;have hsU':=hsU;have hsV':=hsV;rw[hUe] at hsU';rw[hVe] at hsV';obtain ⟨su1,su2,su3⟩:=Srt.append_iff.1 hsU';obtain ⟨sv1,sv2,sv3⟩:=Srt.append_iff.1 hsV';have hrow:p++U++V++q=p++U.take i++U.drop i++V.take j++V.drop j++q:=by
  conv=>lhs; rw[hUe,hVe]
  simp
 have hst:aw key (U++V) ((U.take i++V.take j)++(U.drop i++V.drop j)):=by
  have e:U++V=(U.take i++(U.drop i++V.take j))++V.drop j:=by
   rw[← zg5 (U.take i),zi8,zg5,zi8]
  rw[e];have h:=aw.append (aw.append (aw.refl (key:=key) (U.take i)) (aw.swap (key:=key) (a:=U.drop i) (b:=V.take j) (fun x hx y hy=>by have:=H1 x hx y hy; omega))) (aw.refl (key:=key) (V.drop j));simpa using h
 clear hsU' hsV';generalize U.take i=U1 at *;generalize U.drop i=U2 at *;generalize V.take j=V1 at *;generalize V.drop j=V2 at *;rw[hrow];refine sW I (lM I (lU (sU I I oM) (aT I ?_)));refine SC.cut (ι:=Unit) (fun _=>[(0,v),(1,vi a),(2,vi m),(3,vi b),(4,cv),(18,vi mid),(20,vi st),(24,vi (mid+m - st))]) (fun _=>g) (fun _=>rowA encSide 75 v (p++U1++V1++(U2++V2++q))::s) (fun _=>True) ?_ ?_
 ·refine SC.cutB 185 (decide (st<m∧m<mid+m - st)) ?_ ?_
  ·refine rG (lM I (lM I (yL I (lM I ?_))));refine sP ?_ ?_
   ·intro h181;refine yC I (yC I (lY I I I (lS I I) (yP I (nL ?_))));exact za9 (by simp[aN,h181]) mI
   ·intro h181;refine yA I (yA I (yA I (yF I (nL ?_))));exact za9 (by simp[aN,h181]) mI
  refine iP I (fun h3=>?_) (fun h3=>?_)
  ·have e1:p++U1++U2++V1++V2++q=p++U1++U2++V1++(V2++q):=by simp
   rw[e1];refine rG (lM I (lM I (lM I (lM I (lM I (lW (SO.call call292 I (Dp E g s v cv (p++U1) U2 V1 (V2++q) oM oM lN _ _ _ lN lN lN)) ?_))))));rintro _ _ _ ⟨rfl,rfl⟩;refine nL ?_;exact za8 () sB I (by simp) trivial
  ·refine kP ?_;exact za8 () sB I (by
    have:U2=[]∨V1=[]:=by
     by_cases h:st<m
     ·right; exact zf1 oM
     ·left; exact zf1 oM
    rcases this with h | h <;> simp[h]) trivial
 rintro ⟨⟩ -;try dsimp only
 refine SC.cut (ι:=List ae) (fun _=>[(0,v),(1,vi a),(2,vi m),(3,vi b),(4,cv),(18,vi mid),(20,vi st),(24,vi (mid+m - st))]) (fun _=>g) (fun W1=>rowA encSide 75 v (p++W1++U2++V2++q)::s) (fun W1=>aw key (U1++V1) W1∧Srt key W1) ?_ ?_
 ·refine SC.cutB 199 (decide (a<st∧st<mid)) ?_ ?_
  ·refine rG (lM I (lM I (yL I (lM I ?_))));refine sP ?_ ?_
   ·intro h195;refine yC I (yC I (lY I I I (lS I I) (yP I (nL ?_))));exact za9 (by simp[aN,h195]) mI
   ·intro h195;refine yA I (yA I (yA I (yF I (nL ?_))));exact za9 (by simp[aN,h195]) mI
  refine iP I (fun h3=>?_) (fun h3=>?_)
  ·refine rG (lM I (lM I (lM I (lM I (lM I (lW (SO.call call270 I (ih (U1.length+V1.length) oM s p U1 V1 (U2++V2++q) I su1 sv1 oM oM lN _ _ _ lN lN lN)) ?_))))));rintro _ _ _ ⟨rfl,W1,hW1,hW2,rfl⟩;refine nL ?_;exact za8 W1 sB I (by simp) ⟨hW1,hW2⟩
  ·refine kP ?_;have he:U1=[]∨V1=[]:=by
    by_cases h:a<st
    ·right; exact zf1 oM
    ·left; exact zf1 oM
   exact za8 (U1++V1) sB rfl (by simp) ⟨aw.refl _,by rcases he with h | h <;> simpa [h]⟩
 rintro W1 ⟨hW1,hW2⟩;try dsimp only
 have hW1l:W1.length=U1.length+V1.length:=by have:=hW1.1; simpa using this
 have hfin:∀ W2,aw key (U2++V2) W2→Srt key W2→aw key (U++V) (W1++W2)∧Srt key (W1++W2):=fun W2 h5 h6=>by
  refine⟨hst.trans (hW1.append h5),Srt.append_iff.2 ⟨hW2,h6,fun x hx y hy=>?_⟩⟩;have e1:=hW1.mem hx;have e2:=h5.mem hy
  rcases ze9.1 e1 with e1 | e1 <;> rcases ze9.1 e2 with e2 | e2
  ·exact su3 x e1 y e2
  ·exact H2 x e1 y e2
  ·exact Int.le_of_lt (H1 y e2 x e1)
  ·exact sv3 x e1 y e2
 refine SC.cutB 213 (decide (mid<mid+m - st∧mid+m - st<b)) ?_ ?_
 ·refine rG (lM I (lM I (yL I (lM I ?_))));refine sP ?_ ?_
  ·intro h209;refine yC I (yC I (lY I I I (lS I I) (yP I (nL ?_))));exact za9 (by simp[aN,h209]) mI
  ·intro h209;refine yA I (yA I (yA I (yF I (nL ?_))));exact za9 (by simp[aN,h209]) mI
 refine iP I (fun h3=>?_) (fun h3=>?_)
 ·refine rG (lM I (lM I (lM I (lM I (lM I (lW (SO.call call270 I (ih (U2.length+V2.length) oM s (p++W1) U2 V2 q I su2 sv2 oM oM lN _ _ _ lN lN lN)) ?_))))));rintro _ _ _ ⟨rfl,W2,hW3,hW4,rfl⟩;refine nL ?_;obtain ⟨h5,h6⟩:=hfin W2 hW3 hW4;exact ST.ret0 (.inr I) results270 ⟨I,W1++W2,h5,h6,by simp⟩
 ·refine kP ?_;have he:U2=[]∨V2=[]:=by
   by_cases h:mid<mid+m - st
   ·right; exact zf1 oM
   ·left; exact zf1 oM
  obtain ⟨h5,h6⟩:=hfin (U2++V2) (aw.refl _) (by rcases he with h | h <;> simpa [h]);exact ST.ret0 (.inr I) results270 ⟨I,W1++(U2++V2),h5,h6,by simp⟩
theorem Db (E:World)(g:PH)(s:Own)(v cv:Value)(key:ae→Int)(hc:i6 E cv encSide key g)(l:List ae)(hn:l.length<1152921504606846976)(n:Int)(hnl:n=l.length) :
  Ctr Tryz.prog E 227 #[v,vi n,cv] g (rowA encSide 75 v l::s) (fun _ g' s'=>g=g'∧s'=rowA encSide 75 v (sortBy key l)::s):=by
 refine zb1 (args:=[v,vi n,cv]) func227 I ntmps227 (bE I) ?_;refine rZ (aT I (sW I (lA I (aT I ?_))));refine SC.cut (ι:=List ae×List ae) (fun i=>[(0,v),(1,vi n),(2,cv),(6,vi 20),(7,vi i.1.length)]) (fun _=>g) (fun i=>rowA encSide 75 v (i.1++i.2)::s)
  (fun i=>FC key 20 i.1∧aw key l (i.1++i.2)∧i.2.length<20) ?_ ?_
 ·refine bK ?_;refine oP (ι:=List ae×List ae) (fun i=>[(0,v),(1,vi n),(2,cv),(6,vi 20),(7,vi i.1.length),(8,vi (i.1.length+20))]) (fun _=>g) (fun i=>rowA encSide 75 v (i.1++i.2)::s)
   (fun i=>FC key 20 i.1∧aw key l (i.1++i.2)) (fun i=>i.2.length) ([],l)
   sB rfl rfl ⟨FC.nil,aw.refl _⟩ ?_
  rintro ⟨d,r⟩ ⟨hd,hst⟩;dsimp only at hd hst ⊢;have hlen:d.length+r.length=l.length:=by have:=hst.1; simpa using this
  refine sQ (sW I (lM I (lU (SU.leq I I) (tZ ?_))));refine iP I (fun hle=>?_) (fun hle=>?_)
  ·obtain ⟨c,r',hr,hcl⟩:∃ c r',r=c++r'∧c.length=20:=⟨r.take 20,r.drop 20,by simp,lN⟩;have hrl:r.length=20+r'.length:=by rw[hr]; simp[hcl]
   have e1:d++r=d++c++r':=by rw[hr]; simp
   rw[e1] at hst ⊢;refine kP (tN (bK (sW I (lM I (lM I (lM I (lW (SO.call call269 I (o4 E g s v cv key hc d c r' lN _ _ lN lN)) ?_)))))));rintro _ _ _ ⟨rfl,c',hc1,hc2,rfl⟩;refine tZ (sW I (aT I (rG (lM I (lM I (yD I (lA I (nL (bN ?_)))))))));have hc'l:c'.length=20:=by have:=hc1.1; omega
   exact ST.again (d++c',r') ⟨I,I,I,I,aC lN,aC lN,trivial⟩ I I ⟨hd.snoc hc'l hc2,hst.trans (aw.append (aw.append (aw.refl _) hc1) (aw.refl _))⟩ lN
  ·refine xI (tX (tX (bX ?_)));exact za8 (d,r) sB I I ⟨hd,hst,lN⟩
 rintro ⟨d,r⟩ ⟨hd,hst,hr20⟩;dsimp only at hd hst hr20 ⊢;have hlen:d.length+r.length=l.length:=by have:=hst.1; simpa using this
 have e1:d++r=d++r++[]:=by simp
 rw[e1];refine sW I (lM I (lM I (lM I (lW (SO.call call269 I (o4 E g s v cv key hc d r [] lN _ _ lN lN)) ?_))));rintro _ _ _ ⟨rfl,r',hr1,hr2,rfl⟩;refine tZ (bK ?_);refine oP (ι:=Nat×List ae×List ae) (fun i=>[(0,v),(1,vi n),(2,cv),(6,vi i.1)]) (fun _=>g) (fun i=>rowA encSide 75 v (i.2.1++i.2.2)::s)
  (fun i=>FC key i.1 i.2.1∧aw key l (i.2.1++i.2.2)∧i.2.2.length<i.1∧Srt key i.2.2) (fun i=>l.length - i.1) (20,d,r')
  sB rfl (by simp) ⟨hd,hst.trans (aw.append (aw.refl _) hr1),by have:=hr1.1; (first | with_reducible rfl | ((try dsimp only); (try simp only[ze2,ze5,zc3,ze4,ze1,ze6])<;>omega)),hr2⟩ ?_
 clear hr1 hr2 r' e1 hlen hr20 hst hd r d;rintro ⟨B,d,r⟩ ⟨hd,hst,hrB,hsr⟩;dsimp only at hd hst hrB hsr ⊢;have hlen:d.length+r.length=l.length:=by have:=hst.1; simpa using this
 refine sQ (sW I (lM I (yL I (tZ ?_))));refine iP I (fun hlt=>?_) (fun hlt=>?_)
 ·refine kP (tN (bK (sW I (lU (SU.mul I I oM) (lA I (aT I ?_))))));refine SC.cut (ι:=List ae×List ae) (fun i=>[(0,v),(1,vi n),(2,cv),(6,vi B),(7,vi i.1.length)]) (fun _=>g) (fun i=>rowA encSide 75 v (i.1++i.2++r)::s)
   (fun i=>FC key (2 * B) i.1∧FC key B i.2∧aw key l (i.1++i.2++r)∧i.2.length+r.length<2 * B) ?_ ?_
  ·refine bK ?_;refine oP (ι:=List ae×List ae) (fun i=>[(0,v),(1,vi n),(2,cv),(6,vi B),(7,vi i.1.length),(8,vi (i.1.length+2 * B))]) (fun _=>g) (fun i=>rowA encSide 75 v (i.1++i.2++r)::s)
    (fun i=>FC key (2 * B) i.1∧FC key B i.2∧aw key l (i.1++i.2++r)) (fun i=>i.2.length) ([],d)
    ⟨rfl,rfl,rfl,rfl,rfl,aC lN,trivial⟩ rfl (by simp) ⟨FC.nil,hd,by simpa using hst⟩ ?_
   rintro ⟨e,d1⟩ ⟨he,hd1,hst1⟩;dsimp only at he hd1 hst1 ⊢;have hlen1:e.length+d1.length+r.length=l.length:=by have:=hst1.1; simp at this; omega
   refine sQ (sW I (lM I (lU (SU.leq I I) (tZ ?_))));refine iP I (fun hle=>?_) (fun hle=>?_)
   ·obtain ⟨c1,d2,hde,hc1l,hc1s,hd2⟩:=hd1.front oM;have hd1l:d1.length=B+d2.length:=by rw[hde]; simp[hc1l]
    obtain ⟨c2,d3,hde2,hc2l,hc2s,hd3⟩:=hd2.front oM;have hd2l:d2.length=B+d3.length:=by rw[hde2]; simp[hc2l]
    have e1:e++d1++r=e++c1++c2++(d3++r):=by rw[hde,hde2]; simp
    rw[e1] at hst1 ⊢;refine kP (tN (bK (sW I (lM I (lM I (lM I (yD I (lM I (lM I (lW (SO.call call270 I (ru E g v cv key hc _ s e c1 c2 (d3++r) I hc1s hc2s oM oM lN _ _ _ lN lN lN)) ?_))))))))));rintro _ _ _ ⟨rfl,W,hW1,hW2,rfl⟩;refine tZ (sW I (aT I (rG (lM I (lM I (lU (SU.mul I I oM) (yD I (lA I (nL (bN ?_))))))))));have hWl:W.length=2 * B:=by have:=hW1.1; simp at this; omega
    exact ST.again (e++W,d3) ⟨I,I,I,I,aC lN,aC lN,trivial⟩ I (by simp) ⟨he.snoc hWl hW2,hd3,hst1.trans (by
     have:=aw.append (aw.append (aw.refl (key:=key) e) hW1) (aw.refl (key:=key) (d3++r));simpa using this)⟩ lN
   ·refine xI (tX (tX (bX ?_)));exact za8 (e,d1) sB I I ⟨he,hd1,hst1,lN⟩
  rintro ⟨e,d1⟩ ⟨he,hd1,hst1,hlt2⟩;dsimp only at he hd1 hst1 hlt2 ⊢;have hlen1:e.length+d1.length+r.length=l.length:=by have:=hst1.1; simp at this; omega
  refine SC.cut (ι:=List ae) (fun _=>[(0,v),(1,vi n),(2,cv),(6,vi B)]) (fun _=>g) (fun r'=>rowA encSide 75 v (e++r')::s) (fun r'=>aw key (d1++r) r'∧Srt key r') ?_ ?_
  ·refine sW I (lM I (yD I (aT I (sW I (lM I (yL I (tZ ?_)))))));refine iP I (fun hmn=>?_) (fun hmn=>?_)
   ·obtain ⟨c,d2,hde,hcl,hcs,hd2⟩:=hd1.front oM;have hd1l:d1.length=B+d2.length:=by rw[hde]; simp[hcl]
    have hd2e:d2=[]:=by
     cases hd2 with
     | nil=>rfl
     | cons h3 h4 h5=>simp[h3] at hd1l; omega
    have hd2z:d2.length=0:=by rw[hd2e]; rfl
    have hdc:d1=c:=by rw[hde,hd2e]; simp
    have e1:e++d1++r=e++c++r++[]:=by rw[hdc]; simp
    rw[e1];refine rG (lM I (lM I (lM I (lM I (lM I (lW (SO.call call270 I (ru E g v cv key hc _ s e c r [] I hcs hsr oM oM lN _ _ _ lN lN lN)) ?_))))));rintro _ _ _ ⟨rfl,W,hW1,hW2,rfl⟩;refine nL ?_;exact za8 W sB I (by simp) ⟨by rw[hdc]; exact hW1,hW2⟩
   ·refine kP ?_;exact za8 (d1++r) sB I (by simp) ⟨aw.refl _,by
     rcases Nat.eq_zero_or_pos d1.length with h0 | h0
     ·rw[zf1 h0]; simpa using hsr
     ·obtain ⟨c,d2,hde,hcl,hcs,hd2⟩:=hd1.front h0;have hd1l:d1.length=B+d2.length:=by rw[hde]; simp[hcl]
      have h1:d2=[]:=zf1 oM;have h2:r=[]:=zf1 oM;rw[hde,h1,h2]; simpa using hcs⟩
  rintro r' ⟨hr1,hr2⟩;try dsimp only
  have hr'l:r'.length=d1.length+r.length:=by have:=hr1.1; simpa using this
  refine rG (lM I (lU (SU.mul I I oM) (lA I (nL (bN ?_)))));exact ST.again (2 * B,e,r') ⟨I,I,I,aC lN,trivial⟩ I I ⟨he,hst1.trans (by
   have:=aw.append (aw.refl (key:=key) e) hr1;simpa using this),lN,hr2⟩ lN
 ·refine xI (tX (tX (bX ?_)));have hfin:Srt key (d++r):=by
   rcases Nat.eq_zero_or_pos d.length with h0 | h0
   ·rw[zf1 h0]; simpa using hsr
   ·obtain ⟨c,d2,hde,hcl,hcs,hd2⟩:=hd.front h0;have hd1l:d.length=B+d2.length:=by rw[hde]; simp[hcl]
    have h1:d2=[]:=zf1 oM;have h2:r=[]:=zf1 oM;rw[hde,h1,h2]; simpa using hcs
  exact ST.ret0 (.inr I) results227 ⟨I,by rw[a6 hfin hst]⟩
theorem t6 (E:World)(g:PH)(s:Own)(v cv:Value)(key:ae→Int)(hc:i6 E cv encSide key g)(l:List ae)(hn:l.length<1152921504606846976) :
  Ctr Tryz.prog E 178 #[v,cv] g (rowA encSide 75 v l::s) (fun _ g' s'=>g=g'∧s'=rowA encSide 75 v (sortBy key l)::s):=by
 refine Ctr.facts fun ⟨w0,hw0⟩=>?_;obtain ⟨p,c,rfl⟩:=ah (i:=0) hw0 rfl;clear hw0 w0;refine zb1 (args:=[.slice p l.length c,cv]) func178 I ntmps178 (bE I) ?_;refine rG (lM I (lM I (lU (eN bh I) (lM I (lW (SO.call call227 I (Db E g s _ cv key hc l hn _ I)) ?_)))));rintro _ _ _ ⟨rfl,rfl⟩;refine nL ?_;exact ST.ret0 (.inr I) results178 ⟨I,I⟩
def yr (E:World)(kv:Value)(key:ae→Int)(g:PH):Prop :=
 ∀ g' s a,Le g g'→bM Tryz.prog E kv [.agg (encSide.enc a).toArray] g' s (fun r g'' s''=>r=vi (key a)∧g'=g''∧s=s'')
theorem Ex (E:World)(g:PH)(b:Nat)(kv:Value)(key:ae→Int)(hk:yr E kv key g)(hb:g b=some (.cells #[kv] 166 (0,0))):i6 E (.func (.func 179) #[] #[pp b 0]) encSide key g:=by
 intro g s x y hle;refine bM.mk (cap:=[pp b 0]) call179 ?_;have hb':=hle _ _ hb;refine zb1 (args:=[.agg (encSide.enc x).toArray,.agg (encSide.enc y).toArray,pp b 0]) func179 I ntmps179 (bE I) ?_;refine rZ (bW (bO I) fun b3=>?_);refine bW (bO I) fun b4=>?_;refine aT I (sQ ?_);refine dW [] [(0,1),(1,1),(3,1),(4,1),(2,0),(5,0),(6,0),(7,2)] zd9 kR ?_;refine pK I (qL isAgg166 I (cK hb' I)) (pK I (qV 1 fj aH I I I) (pK I (qL isAgg166 I (cK hb' I)) (pK I (qV 0 fj aH I I I) (SP.o I (SO.callV I I (hk _ _ x hle)) dC (.inr iR) ?_))));rintro _ _ _ ⟨rfl,rfl,rfl⟩;refine SP.o I (SO.callV I I (hk _ _ y hle)) dC (.inr iR) ?_;rintro _ _ _ ⟨rfl,rfl,rfl⟩;refine SP.o I (SO.call call90 I (cU E g _ (key x) (key y))) dC (.inr iR) ?_;rintro _ _ _ ⟨rfl,rfl,rfl⟩;refine pU I (aS I) (pN (tN (rE (dR (s':=s) uR ?_))));exact za7 (.inl I) results179 I ⟨I,I,I⟩
theorem Ez (E:World)(g:PH)(s:Own)(v:Value)(l:List ae)(hv:SlA encSide g v l)(hn:l.length<1099511627776) :
  Ctr Tryz.prog E 110 #[v] g s (fun r g' s'=>g=g'∧s'=rowA encSide 75 r l::s):=by
 obtain ⟨p,c,rfl⟩:=za3 hv;refine zb1 (args:=[.slice p l.length c]) func110 I ntmps110 (bE I) ?_;refine rZ (aT I (sQ (sW I (lU (SU.eqlNil bh I I) (tZ ?_)))));refine iQ I (fun hp=>?_) (fun hp=>?_)
 ·refine rZ (aT I (rE (tR ?_)));have hl:l=[]:=by
   cases l with
   | nil=>rfl
   | cons x r =>
    have hb:=za5 hv (by simp);cases p with
    | none=>simp[based] at hb
    | some q=>simp at hp
  subst hl;refine ST.nilRow 75 2 ?_;exact za7 (.inl I) results110 I ⟨I,I⟩
 ·refine kP (tN (rZ (lW (bS sty39 I I I (ag trivial) dC) ?_)));rintro _ _ _ ⟨b5,rfl,rfl,rfl⟩;refine SL.emptyRow 75 2 (some ⟨b5,0,none⟩) (lM I (lW (SO.appendE (m:=l.length) 0 l.length (l.flatMap encSide.enc) sty39 I I I I I (Sl.rd hv) (encSide.length l) (encSide.ones l) oM (by simp) oM oM) ?_));rintro r7 _ _ ⟨rfl,rfl⟩;refine aT I (rE (dR (s':=rowA encSide 75 r7 l::s) (.cons_cons _ (.cons _ (.refl _))) ?_));exact za7 (.inl I) results110 I ⟨I,I⟩
theorem yx (E:World)(g:PH)(s:Own)(v:Value)(kn:FuncId)(kc:Array Value)(key:ae→Int)(hk:yr E (.func (.func kn) #[] kc) key g)(l:List ae)(hv:SlA encSide g v l)(hn:l.length<1099511627776) :
  Ctr Tryz.prog E 119 #[v,.func (.func kn) #[] kc] g s (fun r g' s'=>g=g'∧s'=rowA encSide 75 r (sortBy key l)::s):=by
 refine zb1 (args:=[v,.func (.func kn) #[] kc]) func119 I ntmps119 (bE I) ?_;refine rZ (bW (bO I) fun b3=>?_);refine zb4 fun g1 hle hb=>?_;refine aT I (sW I (lW (SO.call call110 I (Ez E g1 s v l (hv.mono hle) hn)) ?_));rintro r7 _ _ ⟨rfl,rfl⟩;refine aT I (sW I (lU (SU.mkFunc I) (lW (SO.call call178 I (t6 E g1 s r7 _ key (Ex E g1 b3 _ key (fun g' s a h=>hk g' s a (hle.trans h)) hb) l oM)) ?_)));rintro _ _ _ ⟨rfl,rfl⟩;refine tZ (sW I (aT I (rE (ST.less hle ?_))));exact za7 (.inl I) results119 I ⟨I,I⟩
end Go.Proofs.YtbbppeihhkhkcaaGreatDoor
namespace Go.Sy
open Go Go.MapKept
def unV (q:Value×Value):Int×Value:=(match q.1 with | .int _ z=>z | _=>0,q.2)
theorem rq (l:List (Int×Value)):(l.map jY).map unV=l:=by
 rw[zi2]
 conv=>rhs; rw[← List.map_id l]
 rfl
theorem dv {l m:List Nat}(hm:m.Nodup)(hl:l.Nodup)(h:∀ x∈m,x∈l):m.length≤l.length:=by
 have hp:(l.filter (fun x=>decide (x∈m))).Perm m:=(List.perm_ext_iff_of_nodup (hl.filter _) hm).2 fun x=>by
  rw[zh1];exact⟨fun h1=>by simpa using h1.2,fun h1=>⟨h x h1,by simpa using h1⟩⟩
 have:=hp.length_eq;have:=zc4 (fun x=>decide (x∈m)) l;omega
structure kF (l:List (Int×Value))(es:Array MapEntry)(vis:List MapEntry)(vl:List (Int×Value)):Prop where
 ok:Vis es vis
 eq:vis.map mi=vl.map jY
theorem kF.nil (l:List (Int×Value))(es:Array MapEntry):kF l es [] []:=⟨⟨by simp,by simp⟩,rfl⟩
theorem kF.len {l:List (Int×Value)}{es:Array MapEntry}{clk:Nat}{vis:List MapEntry}{vl:List (Int×Value)}(h:kF l es vis vl)(hm:tg l es clk):vl.length≤l.length:=by
 have h1:vis.length=vl.length:=by have:=zd8 List.length h.eq; simpa using this
 have h2:es.toList.length=l.length:=by have:=zd8 List.length hm.1; simpa using this
 have h3:=dv (l:=es.toList.map (·.born)) h.ok.nodup hm.2.2.1 (fun x hx=>by
  obtain ⟨e,he,rfl⟩:=ze8.1 hx;exact ze8.2 ⟨e,h.ok.sub e he,I⟩)
 simp at h3;simp at h2;omega
theorem kF.all {l:List (Int×Value)}{es:Array MapEntry}{clk:Nat}{vis:List MapEntry}{vl:List (Int×Value)}(h:kF l es vis vl)(hm:tg l es clk)(ha:∀ e∈es.toList,e∈vis):vl.Perm l:=by
 have hnv:vis.Nodup:=List.Pairwise.of_map (fun e=>e.born) (fun a b hab hne=>hab (by rw[hne])) h.ok.nodup;have hne:es.toList.Nodup:=List.Pairwise.of_map (fun e=>e.born) (fun a b hab hne=>hab (by rw[hne])) hm.2.2.1;have hp:vis.Perm es.toList:=(List.perm_ext_iff_of_nodup hnv hne).2 fun e=>⟨h.ok.sub e,ha e⟩;have h1:=(hp.map mi).map unV;rw[h.eq,hm.1,rq,rq] at h1;exact h1
section
variable {P:Program}{N:Nat}{E:World}{f:Fr}{g:PH}{s:Own}{dst:Option Tmp}{ty:TypeId}{pos:String}{af:Array Edge}{gd:Option (Nat×Bool)}
variable {m r clk:Nat}{es:Array MapEntry}{vis:List MapEntry}{x:Operand}{l vl:List (Int×Value)}
theorem SO.nextP (i:Nat)(hx:ev f x=some (pp r 0))(hi:s[i]?=some (iter r m es clk vis))(hm:g m=some (.map es clk))(hI:tg l es clk)(hv:kF l es vis vl) :
  SO P N E ⟨dst,.next x false,ty,pos,af,gd⟩ f g s fun u g' s'=>g=g' ∧
   ((u = .tuple #[.bool false]∧s=s'∧vl.Perm l)∨∃ e p,e∈es.toList∧p∈l∧e.key=vi p.1∧e.val=p.2∧kF l es (vis++[e]) (vl++[p])∧u = .tuple #[.bool true,vi p.1,p.2]∧s'=s.set i (iter r m es clk (vis++[e]))):=by
 refine SO.mono (SO.next i hx hi hm hI.2 hv.ok) ?_;rintro u g' s' ⟨rfl,h⟩;refine⟨I,?_⟩
 rcases h with ⟨h1,h2,h3⟩ | ⟨e,h1,h2,h3,h4⟩
 ·exact .inl ⟨h1,h2,hv.all hI h3⟩
 ·have hp:mi e∈l.map jY:=by rw[← hI.1]; exact ze8.2 ⟨e,h1,I⟩
  obtain ⟨p,hp1,hp2⟩:=ze8.1 hp;simp only[mi,jY,Prod.mk.injEq] at hp2;refine .inr ⟨e,p,h1,hp1,hp2.1.symm,hp2.2.symm,⟨⟨?_,?_⟩,?_⟩,by rw[h3,hp2.1,hp2.2],h4⟩
  ·intro a ha
   rcases ze9.1 ha with h5 | h5
   ·exact hv.ok.sub a h5
   ·simp at h5; rw[h5]; exact h1
  ·rw[zg2,List.nodup_append];refine⟨hv.ok.nodup,by simp,fun a ha b hb hab=>?_⟩;simp at hb;rw[hab,hb] at ha;exact h2 ha
  ·rw[zg2,zg2,hv.eq];simp[mi,jY,hp2.1,hp2.2]
theorem SQ.entryP {e:MapEntry}{p:Int×Value}(i:Nat)(hx:ev f x=some (pp r 0))(hi:s[i]?=some (iter r m es clk (vis++[e])))(hm:g m=some (.map es clk))(hI:tg l es clk)(he:e∈es.toList)(hk:e.key=vi p.1)(hv:e.val=p.2) :
  SQ P N E ⟨dst,.entry x,ty,pos,af,gd⟩ f g s (.tuple #[vi p.1,p.2]):=by
 have:=SQ.entry (P:=P) (N:=N) (E:=E) (f:=f) (s:=s) (dst:=dst) (ty:=ty) (pos:=pos) (af:=af) (gd:=gd) i hx hi hm hI.2 he;rw[hk,hv] at this;exact this
end
def EO (l:List (Int×Value))(q:Int→Bool):Prop:=∀ k,dB l k=if q k then some (vb true) else none
theorem EO.get {l:List (Int×Value)}{q:Int→Bool}(h:EO l q)(k:Int):(dB l k).getD (vb false)=vb (q k):=by
 rw[h k];cases q k <;> rfl
end Go.Sy
namespace Go.Sy
open Go
section
variable (P:Program)(N:Nat)(E:World)(ops:Array Oper)(Q:Exit→Act→World→Prop)(g0:PH)(s0:Own)(tail:List Nat)
def SX (L:Array Bool)(n:Nat)(f:Fr)(g:PH)(s:Own):Prop :=
 ∀ a w,Region.noSelect ops=true→lm ops L→Ok N f a→At E g s w→(eY tail L=false→At E g0 s0 w)→jK P ops Q (At E g0 s0) tail n L a w
def SB (L:Array Bool)(n i:Nat)(f:Fr)(g:PH)(s:Own):Prop :=
 ∀ a w,Region.noSelect ops=true→lm ops L→i∈Region.ready .any ops L→Ok N f a→At E g s w→(eY tail L=false→At E g0 s0 w) →
  wpOp P ops Q i (fun a' w'=>(eY tail (L.setIfInBounds i true)=false→At E g0 s0 w')∧jK P ops Q (At E g0 s0) tail n (L.setIfInBounds i true) a' w') a w
end
def Cr (ops:Array Oper)(tail:List Nat)(L:Array Bool)(i:Nat):Bool:=(Region.ready .any ops L).contains i&&Region.free .any ops L i&&kG ops tail i && !tail.contains i && !eY tail L
def Cs (ops:Array Oper)(tail:List Nat)(L:Array Bool)(i:Nat):Bool:=(Region.ready .any ops L).contains i&&Region.free .any ops L i && !tail.contains i
section
variable {P:Program}{N:Nat}{E:World}{ops:Array Oper}{Q:Exit→Act→World→Prop}{g0:PH}{s0:Own}{tail:List Nat}{f:Fr}{g:PH}{s s':Own}{L:Array Bool}{n:Nat}
theorem SC.drawX {id:Nat}(tail:List Nat)(hm:P.follows .mixedOrders=true)(hok:Region.noSelect ops=true)(h:SX P N E ops Q g s tail (Array.replicate ops.size false) ops.size f g s):SC P N E (.region id ops true) Q f g s:=by
 intro a w ha hw;refine wp_region_any hm (gH _ _ _ _ (S:=At E g s) (tail:=tail) ?_);exact h a { w with drawn:=w.drawn+1 } hok (ik _) ha (hw.drew _ (Nat.le_succ _)) (fun _=>hw.drew _ (Nat.le_succ _))
theorem SX.nil (hr:Region.ready .any ops L=[])(h:ST N E Q .normal f g s):SX P N E ops Q g0 s0 tail L 0 f g s:=fun a w _ _ ha hw _=>⟨hr,h a w ha hw⟩
theorem SX.drop (hs:s'.Sublist s)(h:SX P N E ops Q g0 s0 tail L n f g s'):SX P N E ops Q g0 s0 tail L n f g s:=fun a w h1 hcl ha hw hb=>h a w h1 hcl ha (hw.sublist hs) hb
theorem SX.q [hQ:Quiet Q]{i d:Nat}{op:Op}{ty:TypeId}{pos:String}{af:Array Edge}{v:Value}(hi:ops[i]?=some ⟨some d,op,ty,pos,af,none⟩)(hok:Cr ops tail L i=true)
  (hq:SQ P N E ⟨some d,op,ty,pos,af,none⟩ f g0 s0 v) (hd:d<N)
  (h:SX P N E ops Q g0 s0 tail (L.setIfInBounds i true) n ((d,v)::f) g s):SX P N E ops Q g0 s0 tail L (n+1) f g s:=by
 intro a w hs hcl ha hw hb;simp only[Cr,zi9,Bool.not_eq_true'] at hok;obtain ⟨⟨⟨⟨h1,h2⟩,h3⟩,h4⟩,h5⟩:=hok;refine l8 hi (Region.noSelect_spec hs) (fun c a w hh=>hQ.out c _ _ w (dN a d v) hh) (by simpa using h4) (jE h3) _ L a w hcl (Region.free_spec hi h2) (by simpa using h1)
  (.inl ⟨Gd.none rfl a ha,fun w' hw'=>hq a w' ha hw'⟩) h5 (hb h5) ?_
 exact h _ w hs (dg hcl (by simpa using h1)) (ha.put hd v) hw (fun _=>hb h5)
theorem SX.u [hQ:Quiet Q]{i d:Nat}{op:Op}{ty:TypeId}{pos:String}{af:Array Edge}{v:Value}(hi:ops[i]?=some ⟨some d,op,ty,pos,af,none⟩)(hok:Cs ops tail L i=true)
  (hq:SU P N ⟨some d,op,ty,pos,af,none⟩ f v) (hd:d<N)
  (h:SX P N E ops Q g0 s0 tail (L.setIfInBounds i true) n ((d,v)::f) g s):SX P N E ops Q g0 s0 tail L (n+1) f g s:=by
 intro a w hs hcl ha hw hb;simp only[Cs,zi9,Bool.not_eq_true'] at hok;obtain ⟨⟨h1,h2⟩,h4⟩:=hok;have hit:i ∉ tail:=by simpa using h4
 refine jL hi (Region.noSelect_spec hs) (fun c a w hh=>hQ.out c _ _ w (dN a d v) hh) hit _ L a w (Region.free_spec hi h2) (by simpa using h1)
  (.inl ⟨Gd.none rfl a ha,fun w'=>hq a w' ha⟩) hb ?_
 exact h _ w hs (dg hcl (by simpa using h1)) (ha.put hd v) hw (fun hb'=>hb (by rwa [eu hit] at hb'))
theorem SX.br1 (i:Nat)(hr:Region.ready .any ops L=[i])(h:SB P N E ops Q g0 s0 tail L n i f g s):SX P N E ops Q g0 s0 tail L (n+1) f g s:=by
 intro a w hs hcl ha hw hb;refine⟨fun h0=>(by rw[hr] at h0; cases h0),fun k hk=>?_⟩;have hk':=hk;rw[hr] at hk';simp only[zh4] at hk';subst hk';exact h a w hs hcl hk ha hw hb
theorem SX.br2 (i j:Nat)(hr:Region.ready .any ops L=[i,j])(h:SB P N E ops Q g0 s0 tail L n i f g s)(h2:SB P N E ops Q g0 s0 tail L n j f g s):SX P N E ops Q g0 s0 tail L (n+1) f g s:=by
 intro a w hs hcl ha hw hb;refine⟨fun h0=>(by rw[hr] at h0; cases h0),fun k hk=>?_⟩;have hk':=hk;rw[hr] at hk';simp only[ze7,zh4,List.not_mem_nil,or_false] at hk'
 rcases hk' with rfl | rfl
 ·exact h a w hs hcl hk ha hw hb
 ·exact h2 a w hs hcl hk ha hw hb
theorem SX.br3 (i j m:Nat)(hr:Region.ready .any ops L=[i,j,m])(h:SB P N E ops Q g0 s0 tail L n i f g s)(h2:SB P N E ops Q g0 s0 tail L n j f g s)(h3:SB P N E ops Q g0 s0 tail L n m f g s):SX P N E ops Q g0 s0 tail L (n+1) f g s:=by
 intro a w hs hcl ha hw hb;refine⟨fun h0=>(by rw[hr] at h0; cases h0),fun k hk=>?_⟩;have hk':=hk;rw[hr] at hk';simp only[ze7,zh4,List.not_mem_nil,or_false] at hk'
 rcases hk' with rfl | rfl | rfl
 ·exact h a w hs hcl hk ha hw hb
 ·exact h2 a w hs hcl hk ha hw hb
 ·exact h3 a w hs hcl hk ha hw hb
theorem SB.step {i:Nat}{o:Oper}{K:Value→PH→Own→Prop}(hi:ops[i]?=some o)(hg:Gd N ops f o true)(ho:SO P N E o f g s K)
  (hk:i∈tail∨∀ v g' s',K v g' s'→Le g0 g'∧s0.Sublist s')
  (h:∀ v g' s' a,K v g' s'→Ok N f a→∃ f',Ok N f' (a.put o.dst v)∧SX P N E ops Q g0 s0 tail (L.setIfInBounds i true) n f' g' s'):SB P N E ops Q g0 s0 tail L n i f g s:=by
 intro a w hs hcl hr ha hw hb;unfold wpOp;simp only[hi];rw[zf7 (hg a ha)];refine .inl (ho a w ha hw Q _ fun v g' s' w' hK hw'=>?_);have hb':eY tail (L.setIfInBounds i true)=false→At E g0 s0 w':=by
  intro h0
  rcases hk with hk | hk
  ·exfalso;have hlt:i<L.size:=by
    rcases Nat.lt_or_ge i L.size with h' | h'
    ·exact h'
    ·have:=(mem_ready.1 hr).1;simp[Array.getElem?_eq_none h'] at this
   unfold eY at h0;rw[zk2] at h0;have:=h0 i hk;simp[hlt] at this
  ·obtain ⟨h1,h2⟩:=hk v g' s' hK;exact (hw'.less h1).sublist h2
 obtain ⟨f',hf',hn⟩:=h v g' s' a hK ha;exact⟨hb',hn _ w' hs (dg hcl hr) hf' hw' hb'⟩
theorem SB.o {i d:Nat}{op:Op}{ty:TypeId}{pos:String}{af:Array Edge}{K:Value→PH→Own→Prop}(hi:ops[i]?=some ⟨some d,op,ty,pos,af,none⟩)
  (ho:SO P N E ⟨some d,op,ty,pos,af,none⟩ f g s K) (hd:d<N) (hk:i∈tail∨∀ v g' s',K v g' s'→Le g0 g'∧s0.Sublist s')
  (h:∀ v g' s',K v g' s'→SX P N E ops Q g0 s0 tail (L.setIfInBounds i true) n ((d,v)::f) g' s'):SB P N E ops Q g0 s0 tail L n i f g s :=
 SB.step hi (Gd.none rfl) ho hk fun v g' s' _ hK ha=>⟨_,ha.put hd v,h v g' s' hK⟩
theorem SB.on {i:Nat}{op:Op}{ty:TypeId}{pos:String}{af:Array Edge}{K:Value→PH→Own→Prop}(hi:ops[i]?=some ⟨none,op,ty,pos,af,none⟩)
  (ho:SO P N E ⟨none,op,ty,pos,af,none⟩ f g s K) (hk:i∈tail∨∀ v g' s',K v g' s'→Le g0 g'∧s0.Sublist s')
  (h:∀ v g' s',K v g' s'→SX P N E ops Q g0 s0 tail (L.setIfInBounds i true) n f g' s'):SB P N E ops Q g0 s0 tail L n i f g s :=
 SB.step hi (Gd.none rfl) ho hk fun v g' s' _ hK ha=>⟨f,ha,h v g' s' hK⟩
theorem SB.k (i:Nat)(h:SB P N E ops Q g0 s0 tail L n i f g s):SB P N E ops Q g0 s0 tail L n i f g s:=h
theorem SX.k (n:Nat)(h:SX P N E ops Q g0 s0 tail L n f g s):SX P N E ops Q g0 s0 tail L n f g s:=h
end
end Go.Sy
namespace Go.Sy
open Go
theorem SP.to {P:Program}{N:Nat}{E:World}{ops:Array Oper}{Q:Exit→Act→World→Prop}{g0:PH}{s0:Own}{tail:List Nat}{plan:List (Nat×Nat)}{f:Fr}{g g':PH}{s s':Own}(h:∀ w,At E g s w→At E g' s' w)(hc:SP P N E ops Q g0 s0 tail plan f g' s'):SP P N E ops Q g0 s0 tail plan f g s:=fun L a w h1 hcl h2 ha hw hb=>hc L a w h1 hcl h2 ha (h w hw) hb
section
variable {P:Program}{N:Nat}{E:World}{f:Fr}{g:PH}{s s1:Own}{dst:Option Tmp}{ty:TypeId}{pos:String}{af:Array Edge}{gd:Option (Nat×Bool)}
theorem SU.sliceH {x hi:Operand}{T e:TypeId}{k n c:Nat}{p:Option Addr}{h:Int}(hT:P.underlying T=some (.slice e))(hs:∀ w,(sizeOf e).run P w = .ok k w)(hx:ev f x=some (.slice p n c))(hh:ev f hi=some (vi h))(h0:0≤h)(h2:h≤c) :
  SU P N ⟨dst,.slice T x none (some hi) none,ty,pos,af,gd⟩ f (sliced p 0 h.toNat c k):=fun a w ha=>by
 simp[execOp,ha.ev hx,ha.ev hh,Instr.sliceAt,Instr.slice,run_underlying hT,Instr.sliceBounds,run_sliceBound,sliced,hs w,h0,h2]
theorem SU.sliceL {x lo:Operand}{T e:TypeId}{k n c:Nat}{p:Option Addr}{l:Int}(hT:P.underlying T=some (.slice e))(hs:∀ w,(sizeOf e).run P w = .ok k w)(hx:ev f x=some (.slice p n c))(hl:ev f lo=some (vi l))(h0:0≤l)(h1:l≤n) :
  SU P N ⟨dst,.slice T x (some lo) none none,ty,pos,af,gd⟩ f (sliced p l.toNat n c k):=fun a w ha=>by
 simp[execOp,ha.ev hx,ha.ev hl,Instr.sliceAt,Instr.slice,run_underlying hT,Instr.sliceBounds,run_sliceBound,sliced,hs w,h0,h1]
theorem SU.cap {x:Operand}{T e:TypeId}{p:Option Addr}{n c:Nat}(hT:P.underlying T=some (.slice e))(hx:ev f x=some (.slice p n c)) :
  SU P N ⟨dst,.call ⟨.builtin .cap,#[x],#[T]⟩,ty,pos,af,gd⟩ f (vi c):=fun a w ha=>by
 simp[execOp,resolve,invoke,builtin,ha.ev hx,Builtin.cap_,run_underlying hT,goInt]
theorem Sl.cut {k n c l m:Nat}{p:Option Addr}{xs:List Value}(h:Sl g k (.slice p n c) n xs)(hl:l≤m)(hm:m≤n):Sl g k (sliced p l m c k) (m - l) ((xs.drop (l * k)).take ((m - l) * k)):=by
 obtain ⟨p',c',he,⟨h2,hc⟩,h3⟩:=h;injection he with e1 e2 e3
 subst e1; subst e3;refine⟨_,_,I,⟨?_,oM⟩,fun hne=>?_⟩
 ·have:m * k≤n * k:=Nat.mul_le_mul_right k hm;have h5:l * k+(m - l) * k=m * k:=by rw[← Nat.add_mul]; congr 1; omega
  rw[ze1,ze6,h2];omega
 ·have hx0:xs≠[]:=fun e=>hne (by rw[e]; simp);obtain ⟨b,o,cs,T,fr,rfl,h5,h6⟩:=h3 hx0;have hcl:¬ c=l:=fun e=>hne (by
   have:m - l=0:=oM;rw[this]; simp)
  have hadd:(⟨b,o,none⟩:Addr).add (l * k)=⟨b,o+l * k,none⟩:=by unfold Addr.add; split <;> simp_all
  refine⟨b,o+l * k,cs,T,fr,by simp[hcl,hadd],h5,fun j x hj=>?_⟩;rw[zh7] at hj;split at hj
  ·rw[zh8] at hj;rw[Nat.add_assoc];exact h6 _ x hj
  ·cases hj
theorem SlA.cut {α:Type}{k:Nat}{e:Enc α k}{c l m:Nat}{p:Option Addr}{xs:List α}(h:SlA e g (.slice p xs.length c) xs)(hl:l≤m)(hm:m≤xs.length):SlA e g (sliced p l m c k) ((xs.drop l).take (m - l)):=by
 have h1:=Sl.cut h hl hm;have hlen:((xs.drop l).take (m - l)).length=m - l:=by rw[ze1,ze6]; omega
 unfold SlA;rw[hlen];have:((xs.drop l).take (m - l)).flatMap e.enc=((xs.flatMap e.enc).drop (l * k)).take ((m - l) * k):=by
  have key:∀ (ys:List α) (j:Nat),(ys.take j).flatMap e.enc=(ys.flatMap e.enc).take (j * k):=by
   intro ys;induction ys with
   | nil=>intro j; simp
   | cons y r ih =>
    intro j;cases j with
    | zero=>simp
    | succ j =>
     rw[List.take_succ_cons,zh2,zh2,ih,List.take_append,e.len,show (j+1) * k - k=j * k by rw[Nat.succ_mul]; omega,tL (l:=e.enc y) (by rw[e.len,Nat.succ_mul]; omega)]
  have key2:∀ (ys:List α) (j:Nat),(ys.drop j).flatMap e.enc=(ys.flatMap e.enc).drop (j * k):=by
   intro ys;induction ys with
   | nil=>intro j; simp
   | cons y r ih =>
    intro j;cases j with
    | zero=>simp
    | succ j =>
     rw[List.drop_succ_cons,zh2,ih,List.drop_append,e.len,show (j+1) * k - k=j * k by rw[Nat.succ_mul]; omega,List.drop_of_length_le (l:=e.enc y) (by rw[e.len,Nat.succ_mul]; omega)];simp
  rw[key,key2]
 rw[this];exact h1
theorem SlA.cap {α:Type}{k:Nat}{e:Enc α k}{c n:Nat}{p:Option Addr}{xs:List α}(h:SlA e g (.slice p n c) xs):n=xs.length∧xs.length≤c:=by
 obtain ⟨p',c',he,⟨_,hc⟩,_⟩:=h;injection he with e1 e2 e3
 exact⟨e2,oM⟩
theorem SlA.lit {α:Type}{k:Nat}{e:Enc α k}{b n:Nat}{cs:Array Value}{T:TypeId}{fr:Nat×Nat}{l:List α}(hb:g b=some (.cells cs T fr))(hc:cs.toList=l.flatMap e.enc)(hn:l.length=n):SlA e g (.slice (some ⟨b,0,none⟩) n n) l:=by
 subst hn;refine⟨_,_,I,⟨by rw[e.length],Nat.le_refl _⟩,fun _=>⟨b,0,cs,T,fr,I,hb,fun j x hj=>?_⟩⟩;rw[← hc] at hj;simpa using hj
theorem At.litRow {α:Type}{k:Nat}{e:Enc α k}{b n:Nat}{cs:Array Value}{T:TypeId}{l:List α}{w:World}(h:At E g (pt b (.cells cs T (0,0))::s) w)(hc:cs.toList=l.flatMap e.enc)(hn:l.length=n+1)(hm:n+1≤maxLen):At E g (rowA e T (.slice (some ⟨b,0,none⟩) (n+1) (n+1)) l::s) w:=by
 refine⟨h.os,h.tape,h.output,h.known,fun x hx=>?_,fun x hx q hq=>?_,zj9.2 ⟨fun x hx q hq=>?_,(zj9.1 h.apart).2⟩⟩
 ·rcases ze7.1 hx with rfl | hx
  ·have h1:=h.own (pt b (.cells cs T (0,0))) (by simp);simp only[pt,Option.bind_some] at h1;have hsz:cs.size=(n+1) * k:=by rw[← Array.length_toList,hc,e.length,hn]
   have:=dw (w:=w) (T:=T) (k:=k) (n:=n+1) (b:=b) (cap:=n) (xs:=l.flatMap e.enc) (by rw[e.length,hn]) h1 (Nat.le_refl _) hm hsz (by rw[← hc,tL (by rw[Array.length_toList,hsz]; exact Nat.le_refl _)]);simpa only[rowA,hn] using this
  ·exact h.own x (by simp[hx])
 ·rcases ze7.1 hx with rfl | hx
  ·simp only[rowA,row,mh,zg4] at hq;exact h.fresh (pt b (.cells cs T (0,0))) (by simp) q (by simp[pt,hq])
  ·exact h.fresh x (by simp[hx]) q hq
 ·simp only[rowA,row,mh,zg4] at hq;exact (zj9.1 h.apart).1 x hx q (by simp[pt,hq])
theorem SO.app1A {α:Type}{k bytes b:Nat}{e:Enc α k}{x y:Operand}{t T:TypeId}{z v:Value}{l:List α}{cs:Array Value}(i:Nat)(a:α)(hT:STy P t T k bytes z)(hx:ev f x=some v)(hy:ev f y=some (.slice (some ⟨b,0,none⟩) 1 1))
  (hs:s=pt b (.cells cs T (0,0))::s1) (hi:s1[i]?=some (rowA e T v l)) (hc:cs.toList=e.enc a) (hb:(l.length+1) * bytes≤140737488355328) (hlen:l.length+1≤4611686018427387904) :
  SO P N E ⟨dst,.call ⟨.builtin .append,#[x,y],#[t,t]⟩,ty,pos,af,gd⟩ f g s fun v' g' s'=>g=g'∧s'=s1.set i (rowA e T v' (l++[a])):=by
 have h1:CP cs.toList:=by
  rw[hc];have:∀ (m:List Value),(∀ u∈m,u.oneCell'=true)→CP m:=by
   intro m;induction m with
   | nil=>intro _; trivial
   | cons q r ih=>intro hq; exact⟨hq q (by simp),ih fun u hu=>hq u (by simp[hu])⟩
  exact this _ (e.one a)
 have:=SO.app1 (P:=P) (N:=N) (E:=E) (f:=f) (g:=g) (dst:=dst) (ty:=ty) (pos:=pos) (af:=af) (gd:=gd) i ((l++[a]).flatMap e.enc) (l++[a]).length hT hx hy hs hi (by rw[← Array.length_toList,hc,e.len]) h1 (by rw[hc]; simp) (by simp) hb hlen;exact this
theorem SO.appA {α:Type}{k bytes:Nat}{e:Enc α k}{x y:Operand}{t T:TypeId}{z v u:Value}{l m:List α}(i:Nat)(hT:STy P t T k bytes z)(hx:ev f x=some v)(hy:ev f y=some u)
  (hi:s[i]?=some (rowA e T v l)) (hu:SlA e g u m) (hb:(l.length+m.length) * bytes≤140737488355328) (hlen:l.length+m.length≤4611686018427387904) :
  SO P N E ⟨dst,.call ⟨.builtin .append,#[x,y],#[t,t]⟩,ty,pos,af,gd⟩ f g s fun v' g' s'=>g=g'∧s'=s.set i (rowA e T v' (l++m)):=by
 have:=SO.appendE (P:=P) (N:=N) (E:=E) (f:=f) (g:=g) (dst:=dst) (ty:=ty) (pos:=pos) (af:=af) (gd:=gd) i (l++m).length ((l++m).flatMap e.enc) hT hx hi hy (Sl.isSl hu) (zc1 hu) (SlA.rd hu) (Sl.length hu) (e.ones m) (by simp) (by simp) (by simpa using hb) (by simpa using hlen);exact this
end
theorem aP:type_of% @SO.app1A:=@SO.app1A
theorem aQ:type_of% @SO.appA:=@SO.appA
end Go.Sy
namespace Go.Sy
open Go
theorem qT {z:Array Value}{n:Nat}{u:Value}(hz:∀ v∈z.toList,v.oneCell'=true)(hu:u∈(Builtin.zeroCells z n).toList):u.oneCell'=true:=by
 simp only[Builtin.zeroCells,Array.toList_map,ze8] at hu;obtain ⟨i,hi,rfl⟩:=hu;have hi':i<n * z.size:=by simpa using hi
 have hpos:0<z.size:=by
  rcases Nat.eq_zero_or_pos z.size with h | h
  ·rw[h] at hi'; simp at hi'
  ·exact h
 have hlt:i % z.size<z.size:=Nat.mod_lt _ hpos;have:z[i % z.size]! = z[i % z.size]:=getElem!_pos z _ hlt;rw[this];exact hz _ (by simp)
section
variable {α:Type}{k:Nat}{e:Enc α k}{P:Program}{N:Nat}{E:World}{f:Fr}{g:PH}{s:Own}{dst:Option Tmp}{ty:TypeId}{pos:String}{af:Array Edge}{gd:Option (Nat×Bool)}
theorem Rd.from {b o n c m d:Nat}{xs:List Value}(h:Rd g s (.slice (some ⟨b,0,none⟩) n c) xs):Rd g s (.slice (some ⟨b,o,none⟩) m d) (xs.drop o):=fun E w hw j x hj=>by
 rw[zh8] at hj;obtain ⟨a,n',c',he,hs,hc⟩:=h E w hw (o+j) x hj;injection he with e1
 injection e1 with e1
 subst e1;exact⟨_,_,_,I,I,by simpa [Nat.add_assoc] using hc⟩
theorem Enc.drop {l:List α}(j:Nat):(l.drop j).flatMap e.enc=(l.flatMap e.enc).drop (j * k):=by
 induction l generalizing j with
 | nil=>simp
 | cons y r ih =>
  cases j with
  | zero=>simp
  | succ j =>
   rw[List.drop_succ_cons,zh2,ih,List.drop_append,e.len,show (j+1) * k - k=j * k by rw[Nat.succ_mul]; omega,List.drop_of_length_le (l:=e.enc y) (by rw[e.len,Nat.succ_mul]; omega)];simp
theorem Rd.fromA {b o n c m d:Nat}{l:List α}(h:Rd g s (.slice (some ⟨b,0,none⟩) n c) (l.flatMap e.enc)):Rd g s (.slice (some ⟨b,o * k,none⟩) m d) ((l.drop o).flatMap e.enc):=by
 rw[Enc.drop];exact h.from
theorem At.shrink {w:World}{T:TypeId}{p:Option Addr}{n c i m:Nat}{D J:List α}(h:At E g s w)(hi:s[i]?=some (rowA e T (.slice p n c) (D++J)))(hm:m=D.length):At E g (s.set i (rowA e T (.slice p m c) D)) w:=by
 subst hm;obtain ⟨hxl,hform⟩:=fE h hi;have hsame:(rowA e T (.slice p D.length c) D).blk=(rowA e T (.slice p n c) (D++J)).blk:=by
  cases p <;> cases c <;> rfl
 refine h.turn hi I ⟨I,Nat.le_refl _⟩ I (Nat.le_refl _) (fun _ _ _=>I) ?_ (fun b hb=>?_)
 ·rcases hform with ⟨q,he,h0⟩ | ⟨b,cap,cur,he,hg,hle,hcm,hcs,htake⟩
  ·injection he with e1 e2 e3
   subst e3;have hD:D=[]:=zf1 (by rw[ze2] at h0; omega);subst hD;exact⟨by simp,.inl ⟨p,I,I⟩⟩
  ·injection he with e1 e2 e3
   subst e1; subst e3;refine dw (by rw[e.length]) hg (by simp at hle; omega) hcm hcs ?_;have h1:cur.toList.take (D.length * k)=(cur.toList.take ((D++J).length * k)).take (D.length * k):=by
    rw[List.take_take,Nat.min_eq_left (Nat.mul_le_mul_right k (by simp))]
   rw[h1,htake,List.flatMap_append,List.take_append_of_le_length (by rw[e.length]; exact Nat.le_refl _),tL (by rw[e.length]; exact Nat.le_refl _)]
 ·rw[hsame] at hb;exact⟨(h.fresh _ (zf8 hi) b hb).2,.inl hb⟩
theorem SO.clearA {x:Operand}{t T:TypeId}{bytes b c m n d:Nat}{z:Value}{D:List α}(i:Nat)(hT:STy P t T k bytes z)(hz:∀ v∈z.cells.toList,v.oneCell'=true)(hx:ev f x=some (.slice (some ⟨b,D.length * k,none⟩) m d))(hi:s[i]?=some (rowA e T (.slice (some ⟨b,0,none⟩) n (c+1)) D))(hn:n=D.length)(hm:D.length+m≤c+1) :
  SO P N E ⟨dst,.call ⟨.builtin .clear,#[x],#[t]⟩,ty,pos,af,gd⟩ f g s fun _ g' s'=>g=g'∧s=s' :=
 SO.of_run fun a w ha hw=>by
  subst hn;obtain ⟨hxl,hform⟩:=fE hw hi
  rcases hform with ⟨q,he,h0⟩ | ⟨b',cap,cur,he,hg,hle,hcm,hcs,htake⟩
  ·injection he with e1 e2 e3
   cases e3
  ·injection he with e1 e2 e3
   injection e1 with e1
   injection e1 with e1
   injection e3 with e3
   subst e1; subst e3;have hfr:=hw.fresh _ (zf8 hi) b rfl;by_cases hm0:m=0
   ·subst hm0;refine⟨.tuple #[],w,g,s,?_,hw,I,I⟩;simp[execOp,resolve,invoke,builtin,ha.ev hx,Builtin.clear_,run_underlying hT.und]
   ·have hlen:(Builtin.zeroCells z.cells m).toList.length=m * k:=by simp[size_zeroCells,hT.zs]
    have hst:=run_storeCells_at P b (D.length * k) T (Builtin.zeroCells z.cells m).toList 0 cur w hg (by rw[hlen,hcs,Nat.add_zero,← Nat.add_mul]; exact Nat.mul_le_mul_right k hm) (fun v hv=>qT hz hv);simp only[Nat.add_zero] at hst;refine⟨.tuple #[],w.setRow b (cur.toList.take (D.length * k)++(Builtin.zeroCells z.cells m).toList++cur.toList.drop (D.length * k+(Builtin.zeroCells z.cells m).toList.length)).toArray,g,s,?_,?_,I,I⟩
    ·cases m with
     | zero=>exact absurd rfl hm0
     | succ m=>simp[execOp,resolve,invoke,builtin,ha.ev hx,Builtin.clear_,run_underlying hT.und,hT.zero w]; simp only[Array.length_toList] at hst; rw[hst]; simp
    ·have h2:=hw.turn (w':=w.setRow b (cur.toList.take (D.length * k)++(Builtin.zeroCells z.cells m).toList++cur.toList.drop (D.length * k+(Builtin.zeroCells z.cells m).toList.length)).toArray) (e':=rowA e T (.slice (some ⟨b,0,none⟩) D.length (c+1)) D) hi rfl ⟨rfl,Nat.le_refl _⟩ rfl (by simp) (fun k' _ hk'=>setRow_other w b k' _ (fun e1=>hk' (by simp[rowA,row,mh,e1]))) (dw (by rw[e.length]) (setRow_heap w b cur _ T _ hg) hle hcm (by
       simp only[List.size_toArray,ze2,ze1,ze6,Array.length_toList];have:D.length * k+m * k≤(c+1) * k:=by rw[← Nat.add_mul]; exact Nat.mul_le_mul_right k hm
       simp only[Array.length_toList] at hlen;omega) (by
       have h3:(cur.toList.take (D.length * k)).length=D.length * k:=by
        have hcl:cur.toList.length=(c+1) * k:=by rw[Array.length_toList]; exact hcs
        rw[ze1,hcl];exact Nat.min_eq_left (Nat.mul_le_mul_right k hle)
       rw[zg5,List.take_append_of_le_length (by rw[h3]; exact Nat.le_refl _),tL (by rw[h3]; exact Nat.le_refl _),htake])) (fun b' hb'=>by
       simp only[rowA,row,mh,zg4] at hb';subst hb';exact⟨by simpa using hfr.2,.inl I⟩)
     have hset:s.set i (rowA e T (.slice (some ⟨b,0,none⟩) D.length (c+1)) D)=s:=by
      apply List.ext_getElem?;intro q;rw[List.getElem?_set];split
      ·rename_i e1; subst e1;split
       ·exact hi.symm
       ·rename_i h2; rw[List.getElem?_eq_none oM]
      ·rfl
     rwa [hset] at h2
end
end Go.Sy
namespace Go.Sy
open Go
section
variable {α:Type}{k:Nat}{e:Enc α k}{P:Program}{N:Nat}{E:World}{f:Fr}{g:PH}{s:Own}{dst:Option Tmp}{ty:TypeId}{pos:String}{af:Array Edge}{gd:Option (Nat×Bool)}
theorem SO.appendZ {x y:Operand}{t tn T:TypeId}{kn:IntKind}{bytes n:Nat}{z:Value}(e:Enc α k)(hT:STy P t T k bytes z)(htn:P.underlying tn=some (.int kn))(hx:ev f x=some (.slice none 0 0))(hy:ev f y=some (vi n))(h0:0<n)(hb:n * bytes≤140737488355328)(hlen:n≤4611686018427387904) :
  SO P N E ⟨dst,.call ⟨.builtin .append,#[x,y],#[t,tn]⟩,ty,pos,af,gd⟩ f g s fun v' g' s'=>∃ b cap,v' = .slice (some ⟨b,0,none⟩) n (cap+1)∧n≤cap+1∧g=g'∧s'=rowA e T (.slice (some ⟨b,0,none⟩) 0 (cap+1)) []::s :=
 SO.of_run fun a w ha hw=>by
  obtain ⟨ti,ht1,ht2,ht3,ht4⟩:=hT.info;have h5:=Lib.run_append_nil_zeros (P:=P) w t tn ty T ti z .i64 kn hT.und htn ht1 ht2 n h0 (by rw[ht3]; exact hT.pos) oM (by rw[ht4]; omega);have hge:=grownCap_ge w n 0 T;have hcm:=grownCap_le_maxLen w n 0 T (by unfold maxLen; omega);obtain ⟨cap,hcap⟩:∃ cap,grownCap w n 0 T=cap+1:=⟨grownCap w n 0 T - 1,oM⟩;rw[hcap] at h5 hge hcm;have h6:=hw.emptyRow T k (none:Option Addr);have hrun:(execOp a.eval ⟨dst,.call ⟨.builtin .append,#[x,y],#[t,tn]⟩,ty,pos,af,gd⟩).run P w = .ok (.value (.slice (some ⟨w.heap.size,0,none⟩) n (cap+1))) (w.drew.alloc (.cells (Builtin.zeroCells z.cells n++Builtin.zeroCells z.cells (cap+1 - n)) T)):=by
   simp[execOp,resolve,invoke,builtin,ha.ev hx,ha.ev hy,h5]
  refine⟨_,_,g,_,hrun,?_,_,_,I,hge,I,I⟩;have hz:(Builtin.zeroCells z.cells n++Builtin.zeroCells z.cells (cap+1 - n)).size=(cap+1) * k:=by
   rw[Array.size_append,size_zeroCells,size_zeroCells,hT.zs,← Nat.add_mul];congr 1;omega
  have hnew:(w.drew.alloc (.cells (Builtin.zeroCells z.cells n++Builtin.zeroCells z.cells (cap+1 - n)) T)).heap[w.heap.size]?=some (.cells (Builtin.zeroCells z.cells n++Builtin.zeroCells z.cells (cap+1 - n)) T (0,0)):=heap_alloc_new w.drew _;have h7:=h6.turn (i:=0) (w':=w.drew.alloc (.cells (Builtin.zeroCells z.cells n++Builtin.zeroCells z.cells (cap+1 - n)) T)) (e':=rowA e T (.slice (some ⟨w.heap.size,0,none⟩) 0 (cap+1)) []) rfl rfl ⟨rfl,by exact Nat.le_add_right _ _⟩ rfl (by simp) (fun q hq _=>by (first | exact heap_alloc_old w.drew _ q hq | exact heap_alloc_old w.drew _ hq))
   (dw (by simp) hnew (zf3 _) hcm hz (by simp)) (fun b hb=>by
    simp only[rowA,row,mh,zg4] at hb;subst hb;exact⟨(Array.getElem?_eq_some_iff.1 hnew).1,.inr (Nat.le_refl _)⟩)
  simpa using h7
end
section
variable {α:Type}{k:Nat}{e:Enc α k}{P:Program}{N:Nat}{E:World}{f:Fr}{g:PH}{s:Own}{dst:Option Tmp}{ty:TypeId}{pos:String}{af:Array Edge}{gd:Option (Nat×Bool)}
theorem Ae {a:α}{zs:Array Value}(n:Nat)(hz:zs.toList=e.enc a):(madeCells zs (n * k)).toList=(List.replicate n a).flatMap e.enc:=by
 have hzs:zs.size=k:=by rw[← Array.length_toList,hz,e.len]
 apply List.ext_getElem?;intro q;by_cases hq:q<n * k
 ·have hk:0<k:=e.pos;have hqk:q % k<k:=Nat.mod_lt _ hk;have hqd:q / k<n:=(Nat.div_lt_iff_lt_mul hk).2 hq;have hsz:q % k<zs.size:=oM;have h1:(e.enc a)[q % k]?=some zs[q % k]:=by rw[← hz]; simp[hsz]
  have h2:=e.get (l:=List.replicate n a) (i:=q / k) (j:=q % k) (a:=a) (by simp[hqd]) h1;rw[show q / k * k+q % k=q by rw[Nat.mul_comm]; exact Nat.div_add_mod q k] at h2;rw[h2];simp[madeCells,hq,hzs];rw[getElem!_pos zs _ hsz]
 ·rw[List.getElem?_eq_none (by simp[madeCells]; omega),List.getElem?_eq_none (by rw[e.length]; simp; omega)]
theorem SO.makeA {x y:Operand}{t T:TypeId}{bytes n:Nat}{z:Value}(e:Enc α k)(a:α)(hT:STy P t T k bytes z)(hz:z.cells.toList=e.enc a)(hx:ev f x=some (vi n))(hy:ev f y=some (vi n))(hb:n * bytes≤140737488355328)(hlen:n≤4611686018427387904) :
  SO P N E ⟨dst,.makeSlice t x y,ty,pos,af,gd⟩ f g s fun v' g' s'=>∃ b,v' = .slice (some ⟨b,0,none⟩) n n∧g=g'∧s'=rowA e T (.slice (some ⟨b,0,none⟩) n n) (List.replicate n a)::s :=
 SO.of_run fun ac w ha hw=>by
  obtain ⟨ti,ht1,ht2,ht3,ht4⟩:=hT.info;have hbi:(ti.bytes:Int) * ((n:Nat):Int)≤281474976710656:=by
   rw[ht4,← Int.natCast_mul,Nat.mul_comm]; omega
  have h5:=run_make (P:=P) w t T ti z hT.und ht1 ht2 .i64 .i64 n n oM (Int.le_refl _) hbi oM;simp only[Int.toNat_natCast] at h5;rw[ht3] at h5;have hrun:(execOp ac.eval ⟨dst,.makeSlice t x y,ty,pos,af,gd⟩).run P w = .ok (.value (.slice (some ⟨w.heap.size,0,none⟩) n n)) (w.alloc (.cells (madeCells z.cells (n * k)) T)):=by
   simp[execOp,ha.ev hx,ha.ev hy,h5]
  have hnew:(w.alloc (.cells (madeCells z.cells (n * k)) T)).heap[w.heap.size]?=some (.cells (madeCells z.cells (n * k)) T (0,0)):=heap_alloc_new w _;refine⟨_,_,g,_,hrun,?_,_,I,I,I⟩;have hml:=Ae (e:=e) (a:=a) n hz;cases n with
  | zero =>
   have h6:=hw.emptyRow T k (some ⟨w.heap.size,0,none⟩);have h7:=h6.alloc (e:=pt w.heap.size (.cells (madeCells z.cells (0 * k)) T (0,0))) (o:=.cells (madeCells z.cells (0 * k)) T (0,0)) rfl rfl;exact h7.sublist (zi7 _ _)
  | succ n =>
   have h6:=hw.alloc (e:=pt w.heap.size (.cells (madeCells z.cells ((n+1) * k)) T (0,0))) (o:=.cells (madeCells z.cells ((n+1) * k)) T (0,0)) rfl rfl;exact h6.litRow hml (by simp) (by unfold maxLen; omega)
end
theorem SP.freeze {P:Program}{N:Nat}{E:World}{ops:Array Oper}{Q:Exit→Act→World→Prop}{g0:PH}{s0:Own}{tail:List Nat}{plan:List (Nat×Nat)}{f:Fr}{g:PH}{s:Own}{b:Nat}{o:Obj}(h:∀ g',Le g g'→g' b=some o→SP P N E ops Q g0 s0 tail plan f g' s):SP P N E ops Q g0 s0 tail plan f g (pt b o::s):=fun L a w h1 hcl h2 ha hw hb=>by
 have ho:w.heap[b]?=some o:=by have:=hw.own (pt b o) (by simp); simpa [pt] using this
 obtain ⟨h3,h4⟩:=hw.freeze (b:=b) rfl ho;exact h _ h4 (eh _ _ _) L a w h1 hcl h2 ha h3 hb
theorem SP.freezeRow {P:Program}{N:Nat}{E:World}{ops:Array Oper}{Q:Exit→Act→World→Prop}{g0:PH}{s0:Own}{tail:List Nat}{plan:List (Nat×Nat)}{f:Fr}{g:PH}{s:Own}{T:TypeId}{k n:Nat}{v:Value}{xs:List Value}(h:∀ g',Le g g'→Sl g' k v n xs→SP P N E ops Q g0 s0 tail plan f g' s):SP P N E ops Q g0 s0 tail plan f g (row T k v n xs::s):=fun L a w h1 hcl h2 ha hw hb=>by
 obtain ⟨g',h3,h4,h5⟩:=hw.freezeRow;exact h g' h3 h5 L a w h1 hcl h2 ha h4 hb
theorem mK:type_of% @SO.makeA:=@SO.makeA
theorem zd4:type_of% @SX.br1:=@SX.br1
theorem zd5:type_of% @SX.br2:=@SX.br2
end Go.Sy
