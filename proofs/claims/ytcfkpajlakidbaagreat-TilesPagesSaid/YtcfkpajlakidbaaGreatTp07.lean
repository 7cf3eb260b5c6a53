/- 7 -/
import Derived.Test.YtcfkpajlakidbaaGreatTp06
import Derived.Test.YtcfkpajlakidbaaGreatTp03
import Derived.Test.YtcfkpajlakidbaaGreatTp05
set_option linter.unusedSimpArgs false
set_option linter.unusedVariables false
namespace Go.Proofs.YtcfkpajlakidbaaGreat
open _root_.Go.Proofs.Tryz _root_.Go.Proofs.YtcfkpajlakidbaaGreat.Tryz
open Go Go.Sy Go.Pl Go.Proofs
set_option maxRecDepth 100000
theorem rT {a b:List Int}(h:a.length≠b.length):decide (ai a b<0)=decide ((a.length:Int)<b.length):=by
 unfold ai
 rcases bA a.length b.length with ⟨h1,e⟩ | ⟨h1,e⟩ | ⟨h1,e⟩
 ·rw[e]; simp; omega
 ·omega
 ·rw[e]; simp; omega
theorem fm {a b:List Int}(h:a.length=b.length):ai a b=fy a b:=by
 unfold ai
 rcases bA a.length b.length with ⟨h1,e⟩ | ⟨h1,e⟩ | ⟨h1,e⟩
 ·omega
 ·rw[e]; simp
 ·omega
theorem rU {x y:Int}{a b:List Int}(h:x≠y):decide (fy (x::a) (y::b)<0)=decide (x<y):=by
 rw[decide_eq_decide];simp only[fy]
 rcases bA x y with ⟨h1,e⟩ | ⟨h1,e⟩ | ⟨h1,e⟩
 ·rw[e]; simp; omega
 ·omega
 ·rw[e]; simp; omega
theorem rV {x y:Int}{a b:List Int}(h:x=y):fy (x::a) (y::b)=fy a b:=by
 simp only[fy]
 rcases bA x y with ⟨h1,e⟩ | ⟨h1,e⟩ | ⟨h1,e⟩
 ·omega
 ·rw[e]; simp
 ·omega
theorem nx (E:World)(g:PH)(s:Own)(v u:Value)(a b:List Int)(hv:bC g v a)(hu:bC g u b)(hl:a.length<1099511627776) :
  Ctr Tryz.prog E 78 #[v,u] g s (fun r g' s'=>r=vb (decide (ai a b<0))∧g=g'∧s=s'):=by
 obtain ⟨p,c,rfl⟩:=za2 hv;obtain ⟨q,d,rfl⟩:=za2 hu;refine za9 (args:=[.slice p a.length c,.slice q b.length d]) func78 I ntmps78 (bE I) ?_;refine rZ (aT I (sQ (sW I (lU (eN ah I) (lM I (lU (eN ah I) (lU (nQ I I) (tZ ?_))))))));refine iP I (fun hne=>?_) (fun hne=>?_)
 ·refine sW I (lU (eN ah I) (lM I (lU (eN ah I) (yL I (aT I (rE (tR ?_)))))));exact za6 (.inl I) results78 I ⟨by rw[rT oM],I,I⟩
 ·have hlen:a.length=b.length:=oM;have hcc:=fm hlen;refine kP (tN (sQ (rZ (aT I (bK ?_)))));refine oP (ι:=Nat) (fun k=>[(0,.slice p a.length c),(1,.slice q b.length d),(5,vi k)]) (fun _=>g) (fun _=>s) (fun k=>k≤a.length∧fy a b=fy (a.drop k) (b.drop k)) (fun k=>a.length - k) 0
   sB rfl rfl ⟨zf4 _,by simp⟩ ?_
  rintro k ⟨hk,heq⟩;refine sQ (sW I (lM I (lU (eN ah I) (yL I (tZ ?_)))));refine iP I (fun hlt=>?_) (fun hlt=>?_)
  ·have hka:k<a.length:=oM;have hkb:k<b.length:=oM;have hb1:=za4 hv oM;have hb2:=za4 hu oM;rw[zg4 hka,zg4 hkb] at heq;refine kP (tN (sQ (bK (sQ ?_))));refine dW [] [(0,2),(1,2),(2,2),(3,1),(4,2),(5,2),(6,2),(7,1),(8,2)] ze1 kR ?_;refine yM I (yM I (pU I (iA ah zT3 I I (by assumption) oM (by (simp[slen]; omega))) ?_));refine pQ I (eB iT3 I (za5 hv) (gE hka) I) dC ?_;refine yM I (yM I (pU I (iA ah zT3 I I (by assumption) oM (by (simp[slen]; omega))) ?_));refine pQ I (eB iT3 I (za5 hu) (gE hkb) I) dC ?_;refine pU I (nQ I I) (pN (tN ?_));refine iP I (fun hd=>?_) (fun hd=>?_)
   ·refine sQ ?_;refine dW [] [(0,2),(1,2),(2,2),(3,1),(4,2),(5,2),(6,2),(7,1),(8,2),(9,2)] ze1 kR ?_;refine yM I (yM I (pU I (iA ah zT3 I I (by assumption) oM (by (simp[slen]; omega))) ?_));refine pQ I (eB iT3 I (za5 hv) (gE hka) I) dC ?_;refine yM I (yM I (pU I (iA ah zT3 I I (by assumption) oM (by (simp[slen]; omega))) ?_));refine pQ I (eB iT3 I (za5 hu) (gE hkb) I) dC ?_;refine pU I (lS I I) (pU I (aS I) (pN (tN (rE (bR (tR (tR (bR (tR ?_)))))))));exact za6 (.inl I) results78 I ⟨by rw[hcc,heq,rU hd],I,I⟩
   ·refine kP (bN (tN (rG (lM I (yD I (lA I (nL ?_)))))));exact gA (k+1) sB I I ⟨oM,by rw[heq,rV (zg7 hd)]⟩ oM
  ·rw[List.drop_eq_nil_of_le oM,List.drop_eq_nil_of_le oM] at heq;refine xI (tX (tX (bX (tN (rZ (aT I (rE ?_)))))));exact za6 (.inl I) results78 I ⟨by rw[hcc,heq]; rfl,rfl,rfl⟩
theorem ow (E:World)(g:PH)(s:Own)(v u:Value)(ls:List (List Int))(t:List Int)(hv:ax g v ls)(hu:bC g u t)(hl:ls.length<1099511627776)(hll:∀ x∈ls,x.length<1099511627776)(htl:t.length<1099511627776)(hs:pM ls) :
  Ctr Tryz.prog E 48 #[v,u] g s (fun r g' s'=>r = .tuple #[vi (lbL ls t),vb (ls.contains t)]∧g=g'∧s=s'):=by
 obtain ⟨rs,hrs,hall⟩:=hv;have hlen:=hall.length;have hmono:=uj hs t;obtain ⟨p,c,rfl⟩:=za2 hrs;refine za9 (args:=[.slice p rs.length c,u]) func48 I ntmps48 (bE I) ?_;refine rZ (lA I (aT I (rZ (aT I (sW I (lU (eN aY I) (aT I (sQ (bK ?_)))))))));refine oP (ι:=Nat×Nat) (fun q=>[(0,.slice p rs.length c),(1,u),(6,vi q.1),(7,vi q.2)]) (fun _=>g) (fun _=>s)
  (fun q=>q.1≤q.2∧q.2≤ls.length∧(∀ k (h:k<ls.length),k<q.1→ai ls[k] t<0)∧∀ k (h:k<ls.length),q.2≤k→¬ ai ls[k] t<0) (fun q=>q.2 - q.1) (0,ls.length)
  ⟨rfl,rfl,rfl,bP oM,trivial⟩ rfl rfl ⟨zf4 _,lR _,fun k _ h=>absurd h oM,fun k h1 h2=>absurd h1 (by dsimp only at h2; omega)⟩ ?_
 rintro ⟨i,j⟩ ⟨hij,hj,hlo,hhi⟩;dsimp only at hij hj hlo hhi ⊢;refine sQ (sW I (lM I (yL I (tZ ?_))));refine iP I (fun hlt=>?_) (fun hlt=>?_)
 ·have hb1:=hrs.based oM;have hml:(i+j) / 2<ls.length:=oM;have hmr:(i+j) / 2<rs.length:=oM;have hmx:rs[((((i+j) / 2:Nat):Int)).toNat]?=some rs[(i+j) / 2]:=gE hmr;have hR:=hall.get (gE hml) (gE hmr);have hxl:=hll _ (gM hml);refine kP (tN (bK (sW I (lM I (yD I (lU (SU.eq (v':=vi (((i+j) / 2:Nat):Int)) (SU.quo I I dC) (zd9 vi (by rw[← Int.natCast_add]; exact kl _ oM))) ?_))))));refine aT I (sW I (lM I (lU (iA aY aR I I hb1 oM sL) (lK (eB bM I hrs.rd hmx I) (lM I (lW (cL call78 I (nx E g _ _ _ ls[(i+j) / 2] t hR hu hxl)) ?_))))));rintro _ _ _ ⟨rfl,rfl,rfl⟩;refine tZ ?_;refine iP I (fun hc=>?_) (fun hc=>?_)
  ·refine rG (lM I (yD I (lA I (nL (bN ?_)))));refine gA ((i+j) / 2+1,j) sB I I ⟨lN,hj,fun k hk h=>?_,hhi⟩ lN;dsimp only at h
   rcases Nat.eq_or_lt_of_le (show k≤(i+j) / 2 by omega) with rfl | h'
   ·exact hc
   ·exact hmono k ((i+j) / 2) hk hml h' hc
  ·refine rG (lM I (lA I (nL (bN ?_))));refine gA (i,(i+j) / 2) sB I I ⟨lN,lN,hlo,fun k hk h=>?_⟩ lN;dsimp only at h
   rcases Nat.eq_or_lt_of_le (show (i+j) / 2≤k by omega) with h' | h'
   ·subst h'; exact hc
   ·exact fun hx=>hc (hmono ((i+j) / 2) k hml hk h' hx)
 ·have hie:i=j:=oM;subst hie;have hlb:lbL ls t=i:=AZ hj (fun k h h'=>by simpa using hlo k h h') (fun k h h'=>by simpa using hhi k h h');by_cases hin:(i:Int)<(rs.length:Int)
  ·have hil:i<ls.length:=oM;have hir:i<rs.length:=oM;have hb1:=hrs.based oM;have hmx:rs[((i:Nat):Int).toNat]?=some rs[i]:=gE hir;have hR:=hall.get (gE hil) (gE hir);have hfound:(!decide (ai t ls[i]<0))=ls.contains t:=by
    have h1:=hhi i hil (lR _);by_cases h2:ai t ls[i]<0
    ·rw[zf6 h2];symm;rw[Bool.not_true,← zj2];intro hm;have hm':t∈ls:=by simpa using hm
     obtain ⟨k,hk,rfl⟩:=zc4 hm'
     rcases Nat.lt_trichotomy k i with h3 | h3 | h3
     ·have:=hlo k hk h3; rw[ce] at this; omega
     ·subst h3; rw[ce] at h2; omega
     ·exact zc6.1 hs i k hil hk h3 h2
    ·rw[zf5 h2];have h3:t=ls[i]:=by
      rcases dg t ls[i] with h | h | h
      ·exact absurd h h2
      ·exact h
      ·exact absurd h h1
     symm;rw[Bool.not_false];have:t∈ls:=by rw[h3]; exact gM hil
     simpa using this
   refine xI (tX (tX (bX (tN (sW I (lM I (lM I (lU (eN aY I) (lU (SU.eq (v':=vb true) (lS I I) (zd9 vb (zf6 hin))) (lM I (yC I (yC I (yC I (lY I I I (iA aY aR I I hb1 oM sL) (SL.gq (gT I I I dC) (eB bM I hrs.rd hmx I) dC (zd8 (gT I I I dC) (cL call78 I (nx E g _ _ _ t ls[i] hu hR htl)) dC ?_))))))))))))))));rintro _ _ _ ⟨rfl,rfl,rfl⟩;refine lY I I I (SU.not I) (yP I (lA I (aT I (rE ?_))));exact ST.ret2 (.inl I) results48 I I ⟨by rw[hlb,← hfound],I,I⟩
  ·have hnf:ls.contains t=false:=by
    rw[← zj2];intro hm;have hm':t∈ls:=by simpa using hm
    obtain ⟨k,hk,rfl⟩:=zc4 hm';have:=hlo k hk oM;rw[ce] at this;omega
   refine xI (tX (tX (bX (tN (sW I (lM I (lM I (lU (eN aY I) (lU (SU.eq (v':=vb false) (lS I I) (zd9 vb (zf5 hin))) (lM I (yA I (yA I (yA I (yA I (yA I (yA I (yA I (yF I (lA I (aT I (rE ?_)))))))))))))))))))));exact ST.ret2 (.inl I) results48 I I ⟨by rw[hlb,hnf],I,I⟩
abbrev dh (l:List Int):Prop:=l.Pairwise (· < ·)
theorem ia:∀ {l m:List Int},dh l→dh m→(∀ x,x∈l↔x∈m)→l=m
 | [],[],_,_,_=>rfl
 | [],y::m,_,_,h=>by have:=(h y).2 (by simp); simp at this
 | x::l,[],_,_,h=>by have:=(h x).1 (by simp); simp at this
 | x::l,y::m,hl,hm,h=>by
  obtain ⟨h1,h2⟩:=zj6.1 hl;obtain ⟨h3,h4⟩:=zj6.1 hm;have hxy:x=y:=by
   rcases ze8.1 ((h x).1 (by simp)) with e | hx
   ·exact e
   ·rcases ze8.1 ((h y).2 (by simp)) with e | hy
    ·exact e.symm
    ·have:=h3 x hx; have:=h1 y hy; omega
  subst hxy;rw[ia h2 h4 fun z=>?_];constructor
  ·intro hz
   rcases ze8.1 ((h z).1 (by simp[hz])) with e | hz'
   ·have:=h1 z hz; omega
   ·exact hz'
  ·intro hz
   rcases ze8.1 ((h z).2 (by simp[hz])) with e | hz'
   ·have:=h3 z hz; omega
   ·exact hz'
theorem hY:∀ {x:Int} {l:List Int},(x::l).Pairwise (· ≤ ·)→dh (bd (fun a b:Int=>decide (a=b)) x l)∧(∀ y∈bd (fun a b:Int=>decide (a=b)) x l,x<y)∧∀ y,y∈l→y=x∨y∈bd (fun a b:Int=>decide (a=b)) x l
 | x,[],_=>⟨List.Pairwise.nil,by simp[bd],by simp⟩
 | x,y::r,h=>by
  obtain ⟨h1,h2⟩:=zj6.1 h;obtain ⟨i1,i2,i3⟩:=hY h2;have hxy:=h1 y (by simp);unfold bd;by_cases e:y=x
  ·subst e;simp only[decide_true,if_true];refine⟨i1,i2,fun z hz=>?_⟩
   rcases ze8.1 hz with rfl | hz
   ·exact .inl I
   ·exact i3 z hz
  ·simp only[e,decide_false];refine⟨zj6.2 ⟨i2,i1⟩,fun z hz=>?_,fun z hz=>?_⟩
   ·rcases ze8.1 hz with rfl | hz
    ·omega
    ·have:=i2 z hz; omega
   ·rcases ze8.1 hz with rfl | hz
    ·exact .inr (by simp)
    ·rcases i3 z hz with rfl | h
     ·exact .inr (by simp)
     ·exact .inr (by simp[h])
theorem i8 (l:List Int):(dN l).Pairwise (· ≤ ·):=by
 have:=List.pairwise_mergeSort (le:=fun x y:Int=>decide (x≤y)) (fun a b c h1 h2=>by simp at *; omega) (fun a b=>by simp; omega) l;exact this.imp fun h=>by simpa using h
theorem jM (l:List Int):dh (bV l):=by
 have hs:=i8 l;unfold bV;cases h:dN l with
 | nil=>exact List.Pairwise.nil
 | cons x r =>
  rw[h] at hs;obtain ⟨h1,h2,_⟩:=hY hs;exact zj6.2 ⟨h2,h1⟩
theorem lP (l:List Int)(y:Int):y∈bV l↔y∈l:=by
 have hs:=i8 l;have hp:=kW l;rw[← hp.mem_iff];unfold bV;refine⟨fun h=>(o8 _ _).subset h,fun h=>?_⟩;cases hc:dN l with
 | nil=>rw[hc] at h; simp at h
 | cons x r =>
  rw[hc] at hs h
  rcases ze8.1 h with rfl | h
  ·simp[gh]
  ·rcases (hY hs).2.2 y h with rfl | h
   ·simp[gh]
   ·simp[gh,h]
theorem BC {l out:List Int}(hs:dh out)(hm:∀ x,x∈out↔x∈l):out=bV l:=ia hs (jM l) fun x=>by rw[hm,lP]
theorem xO {a b:List Int}(ha:dh a)(h:∀ x∈a,x∈b):a.length≤b.length:=pu (ha.imp fun h=>by omega) h
def okS (l:List Int):Bool:=!(l.any fun x=>decide (x<0))&&decide ((bV l).length≤9)
theorem BQ {l:List Int}(h:okS l=false):iu (bV l)=true:=by
 unfold okS at h;rw[Bool.and_eq_false_iff] at h;cases hc:bV l with
 | nil=>rfl
 | cons a r =>
  unfold iu
  rcases h with h | h
  ·simp only[Bool.not_eq_false',zj3,zi9] at h;obtain ⟨x,hx,hx0⟩:=h;have h1:=(lP l x).2 hx;rw[hc] at h1;have hs:=jM l;rw[hc] at hs;have:a≤x:=by
    rcases ze8.1 h1 with rfl | h2
    ·omega
    ·have:=(zj6.1 hs).1 x h2; omega
   simp;omega
  ·rw[hc] at h;simp at h ⊢;omega
theorem zU {l:List Int}(h:okS l=true):(bV l).length≤9∧(iu (bV l)=true→bV l=[]):=by
 unfold okS at h;simp only[zi8,Bool.not_eq_true',zi9] at h;refine⟨h.2,fun hb=>?_⟩;cases hc:bV l with
 | nil=>rfl
 | cons a r =>
  rw[hc] at hb;unfold iu at hb;rw[hc] at h;simp at hb;have ha:a∈l:=(lP l a).1 (by rw[hc]; simp);have h3:=zj8.1 h.1 a ha;simp at h3;have h4:=h.2;simp at h4;omega
theorem vV {out:List Int}{x:Int}{k:Nat}(hs:dh out)(h1:∀ y∈out.take k,y<x)(h2:∀ y∈out.drop k,x<y):dh (out.take k++x::out.drop k):=by
 have hs':dh (out.take k++out.drop k):=by rw[zi7]; exact hs
 have h3:=List.pairwise_append.1 hs';refine List.pairwise_append.2 ⟨h3.1,zj6.2 ⟨h2,h3.2.1⟩,fun y hy z hz=>?_⟩
 rcases ze8.1 hz with rfl | hz
 ·exact h1 y hy
 ·exact h3.2.2 y hy z hz
theorem w4 {α:Type}{out:List α}{x y:α}{k:Nat}:y∈out.take k++x::out.drop k↔y=x∨y∈out:=by
 rw[zf1,ze8];constructor
 ·rintro (h | h | h)
  ·exact .inr (List.mem_of_mem_take h)
  ·exact .inl h
  ·exact .inr (List.mem_of_mem_drop h)
 ·rintro (h | h)
  ·exact .inr (.inl h)
  ·rw[← zi7 k out] at h
   rcases zf1.1 h with h | h
   ·exact .inl h
   ·exact .inr (.inr h)
theorem m4 {out:List Int}{c:Int}{k:Nat}(hs:dh out)(hk:k<out.length)(h:c≤out[k]):∀ y∈out.drop k,c≤y:=by
 rw[zg4 hk];intro y hy;have h1:dh (out.drop k):=List.Pairwise.sublist (List.drop_sublist k out) hs;rw[zg4 hk] at h1
 rcases ze8.1 hy with rfl | hy
 ·exact h
 ·have:=(zj6.1 h1).1 y hy;omega
theorem zB (E:World)(g:PH)(s:Own)(v:Value)(l:List Int)(hv:bC g v l)(hl:l.length<17592186044416) :
  Ctr Tryz.prog E 47 #[v] g s (fun r g' s'=>s=s'∧Le g g'∧((okS l=true∧∃ u,r = .tuple #[u,vb true]∧bC g' u (bV l))∨(okS l=false∧r = .tuple #[.slice none 0 0,vb false]))):=by
 obtain ⟨p,c,rfl⟩:=za2 hv;refine za9 (args:=[.slice p l.length c]) func47 I ntmps47 (bE I) ?_;refine rZ (lA I (aT I (rZ (aT I (sQ (rZ (aT I (bK ?_))))))));refine oP (ι:=PH×Value×List Int×Nat) (fun i=>[(0,.slice p l.length c),(4,i.2.1),(5,vi i.2.2.2)]) (fun i=>i.1) (fun _=>s)
  (fun i=>Le g i.1∧bC i.1 i.2.1 i.2.2.1∧i.2.2.2≤l.length∧dh i.2.2.1∧(∀ x,x∈i.2.2.1↔x∈l.take i.2.2.2)∧((l.take i.2.2.2).any (fun x=>decide (x<0))=false∧i.2.2.1.length≤9)) (fun i=>l.length - i.2.2.2)
  (g,.slice none 0 0,[],0) sB rfl rfl ⟨zb7 g,zb8 g _,zf4 _,List.Pairwise.nil,by simp,by simp,by simp⟩ ?_
 rintro ⟨g1,ov,out,i⟩ ⟨hle,hov,hi,hstr,hmem,hneg,h9⟩;dsimp only at hle hov hi hstr hmem hneg h9 ⊢;obtain ⟨q,d,rfl⟩:=za2 hov;have hqc:=(SlA.cap hov).2;refine sQ (sW I (lM I (lU (eN ah I) (yL I (tZ ?_)))));refine iP I (fun hlt=>?_) (fun hlt=>?_)
 ·have hil:i<l.length:=oM;have hb1:=za4 (hv.mono hle) oM;have hgi:l[((i:Nat):Int).toNat]?=some l[i]:=gE hil;have htk:l.take (i+1)=l.take i++[l[i]]:=tS hil;have hxm:l[i]∈l:=gM hil;generalize l[i]=x at *;refine kP (tN (sQ (bK (rZ (aT I ?_)))));refine SC.cut (ι:=Nat) (fun k=>[(0,.slice p l.length c),(4,.slice q out.length d),(5,vi i),(6,vi k)]) (fun _=>g1) (fun _=>s) (fun k=>k≤out.length∧(∀ y∈out.take k,y<x)∧∀ y∈out.drop k,x≤y) ?_ ?_
  ·refine bK ?_;refine oP (ι:=Nat) (fun k=>[(0,.slice p l.length c),(4,.slice q out.length d),(5,vi i),(6,vi k)]) (fun _=>g1) (fun _=>s) (fun k=>k≤out.length∧∀ y∈out.take k,y<x) (fun k=>out.length - k) 0
    sB rfl rfl ⟨zf4 _,by simp⟩ ?_
   rintro k ⟨hk,htake⟩;by_cases hin:(k:Int)<(out.length:Int)
   ·have hkl:k<out.length:=oM;have hb2:=za4 hov oM;refine sQ (sQ ?_);refine dW [] [(0,2),(1,2),(2,2),(3,2),(4,2),(5,2),(6,2),(7,2),(8,1),(9,2),(10,2),(11,2),(12,1),(13,2),(14,2)] ze1 kR ?_;refine yM I (yM I (pU I (eN ah I) (pU I (SU.eq (v':=vb true) (lS I I) (zd9 vb (zf6 hin))) (yM I (yJ I (yJ I (zb1 I (gT I I I dC) (iA ah zT3 I I hb2 oM sL) dC ?_)))))));refine SP.gq I (gT I I I dC) (eB iT3 I (za5 hov) (gE hkl) I) dC ?_;refine yJ I (yJ I (zb1 I (gT I I I dC) (iA ah zT3 I I hb1 oM sL) dC (SP.gq I (gT I I I dC) (eB iT3 I (za5 (hv.mono hle)) hgi I) dC (zb1 I (gT I I I dC) (lS I I) dC (pU I (wT I I) (pN (tN ?_)))))));refine iP I (fun hc=>?_) (fun hc=>?_)
    ·refine kP (tN (bK (rG (lM I (yD I (lA I (nL (bN ?_))))))));exact gA (k+1) sB I I ⟨oM,by
      rw[tS hkl];intro y hy
      rcases zf1.1 hy with h | h
      ·exact htake y h
      ·simp at h; subst h; exact hc⟩ oM
    ·refine xI (tX (tX (bX ?_)));exact za7 k sB I I ⟨hk,htake,m4 hstr hkl oM⟩
   ·refine sQ (sQ ?_);refine dW [] [(0,2),(1,2),(2,2),(3,2),(4,2),(5,2),(6,2),(7,2),(8,1),(9,2),(10,2),(11,2),(12,1),(13,2),(14,2)] ze1 kR ?_;refine yM I (yM I (pU I (eN ah I) (pU I (SU.eq (v':=vb false) (lS I I) (zd9 vb (zf5 hin))) (yM I (yG I (yG I (yG I (yI I (yG I (yG I (yG I (yI I (yG I (pU I (wF I I) (pN (tN (cF I (xI (tX (tX (bX ?_)))))))))))))))))))));exact za7 k sB I I ⟨hk,htake,by rw[List.drop_eq_nil_of_le oM]; simp⟩
  ·rintro k ⟨hk,hk1,hk2⟩;have hskip:x∈out→∀ y,y∈out↔y∈l.take (i+1):=fun h y=>by
    rw[htk,zf1,← hmem];constructor
    ·exact .inl
    ·rintro (h' | h')
     ·exact h'
     ·simp at h'; rw[h']; exact h
   have hxneg:x∈out→(l.take (i+1)).any (fun x=>decide (x<0))=false:=fun h=>by
    have h1:=zj8.1 hneg x ((hmem x).1 h);rw[htk,List.any_append,hneg];simpa using h1
   have hins:(∀ y∈out.drop k,x<y)→dh (out.take k++x::out.drop k)∧∀ y,y∈out.take k++x::out.drop k↔y∈l.take (i+1):=fun h=>⟨vV hstr hk1 h,fun y=>by
    rw[w4,htk,zf1,← hmem];simp;exact or_comm⟩
   have hc1:=SlA.cut hov (l:=k) (m:=out.length) hk (lR _);have hc2:=SlA.cut hov (l:=0) (m:=k) (zf4 _) hk;rw[tL (by rw[ze7]; exact lR _)] at hc1;rw[List.drop_zero,Nat.sub_zero] at hc2;have hnl:(out.take k++x::out.drop k).length=out.length+1:=lN;obtain ⟨nw,hnw⟩:∃ nw,nw=out.take k++x::out.drop k:=⟨_,rfl⟩;have hbad1:x<0→okS l=false:=fun h=>by
    unfold okS;have:l.any (fun x=>decide (x<0))=true:=zj3.2 ⟨x,hxm,by simpa using h⟩;rw[this]; rfl
   have hbad2:(∀ y∈out.drop k,x<y)→9<(out.take k++x::out.drop k).length→okS l=false:=fun h h'=>by
    obtain ⟨h1,h2⟩:=hins h;have h3:=xO h1 (b:=bV l) (fun y hy=>by rw[lP]; exact List.mem_of_mem_take ((h2 y).1 hy));unfold okS;have:decide ((bV l).length≤9)=false:=zf5 oM;rw[this]; simp
   have hgo:∀ g3 q3 d3,(∀ y∈out.drop k,x<y)→Le g g3→bC g3 (.slice q3 (out.take k++x::out.drop k).length d3) (out.take k++x::out.drop k)→¬ x<0→(out.take k++x::out.drop k).length≤9 →
     Le g g3∧bC g3 (.slice q3 (out.take k++x::out.drop k).length d3) (out.take k++x::out.drop k)∧i+1≤l.length∧dh (out.take k++x::out.drop k)∧(∀ y,y∈out.take k++x::out.drop k↔y∈l.take (i+1))∧((l.take (i+1)).any (fun x=>decide (x<0))=false∧(out.take k++x::out.drop k).length≤9):=fun g3 q3 d3 h1 h2 h3 h4 h5 =>
    ⟨h2,h3,oM,(hins h1).1,(hins h1).2,by rw[htk,List.any_append,hneg]; simpa using h4,h5⟩
   have hgt:out.contains x=false→∀ y∈out.drop k,x<y:=fun h y hy=>by
    have h1:=hk2 y hy;have h2:y≠x:=fun e=>by
     have:out.contains x=true:=by rw[← e]; simpa using List.mem_of_mem_drop hy
     rw[h] at this; cases this
    omega
   have hgetk:(k:Int)<(out.length:Int)→out[((k:Nat):Int).toNat]?=some (out.getD k 0):=fun h=>by
    have h2:k<out.length:=oM;rw[show ((k:Nat):Int).toNat=k by omega,gE h2,zg8,gE h2]; rfl
   have hA:(k:Int)<(out.length:Int)→out.contains x=decide (out.getD k 0=x):=fun h=>by
    have h2:k<out.length:=oM;rw[zg8,gE h2,Option.getD_some,Bool.eq_iff_iff,zj1];constructor
    ·intro hm;have hm':x∈out:=by simpa using hm
     rw[← zi7 k out] at hm'
     rcases zf1.1 hm' with h3 | h3
     ·have:=hk1 x h3; omega
     ·have h4:=hk2 _ (by rw[zg4 h2]; exact List.mem_cons_self:out[k]∈out.drop k);have h5:=m4 hstr h2 (Int.le_refl out[k]) x h3;omega
    ·intro e;rw[← e];simp
   have hB:¬ (k:Int)<(out.length:Int)→out.contains x=false:=fun h=>by
    rw[← zj2];intro hm;have hm':x∈out:=by simpa using hm
    rw[← zi7 k out,List.drop_eq_nil_of_le oM,zc3] at hm';have:=hk1 x hm';omega
   have hb2:=fun h=>za4 hov h;generalize out.getD k 0=yk at hgetk hA;obtain ⟨nl,hnl2⟩:∃ nl,nl=(out.take k++x::out.drop k).length:=⟨_,rfl⟩;have f1:x<0→(decide (x<0)||decide ((((out.take k++x::out.drop k).length:Nat):Int)>9))=true:=fun h=>by simp[h]
   have f2:¬ x<0→(decide (x<0)||decide ((((out.take k++x::out.drop k).length:Nat):Int)>9))=decide ((((out.take k++x::out.drop k).length:Nat):Int)>9):=fun h=>by simp only[h,decide_false,Bool.false_or]
   refine sQ ?_;refine SC.cutB 45 ((out.contains x)) ?_ ?_
   ·refine dW [] [(0,2),(1,2),(2,2),(3,2),(4,2),(5,2),(6,2),(7,2),(8,1),(9,2),(10,2),(11,2),(12,1),(13,2),(14,2)] ze1 kR ?_;refine yM I (yM I (pU I (eN ah I) (pU I (lS I I) (yM I ?_))));refine SP.split ?_ ?_
    ·intro h35;refine yJ I (yJ I (zb1 I (gT I I I dC) (iA ah zT3 I I (hb2 oM) oM sL) dC (SP.gq I (gT I I I dC) (eB iT3 I (za5 hov) (hgetk h35) I) dC (yJ I (yJ I (zb1 I (gT I I I dC) (iA ah zT3 I I hb1 oM sL) dC (SP.gq I (gT I I I dC) (eB iT3 I (za5 (hv.mono hle)) hgi I) dC (zb1 I (gT I I I dC) (eQ I I) dC (pU I (wT I I) (pN ?_))))))))));exact za8 (by (rw[hA h35]; rfl)) mI
    ·intro h35;refine yG I (yG I (yG I (yI I (yG I (yG I (yG I (yI I (yG I (pU I (wF I I) (pN ?_))))))))));exact za8 (by (rw[hB h35]; rfl)) mI
   refine iQ I (fun hthere=>?_) (fun hthere=>?_)
   ·have hxo:x∈out:=by simpa using hthere
    refine xI (tX (bX (tN (rG (lM I (yD I (lA I (nL ?_))))))));exact gA (g1,_,out,i+1) sB I I ⟨hle,hov,lN,hstr,hskip hxo,hxneg hxo,h9⟩ lN
   ·have hg:=hgt hthere;refine kP (tN (sQ ?_));refine dW [8] [(0,2),(1,2),(2,2),(3,1),(5,2),(6,2),(7,2),(4,0),(8,0),(9,2)] ze1 kR ?_;refine yM I (yM I (pU I (iA ah zT3 I I hb1 oM sL) (pK I (eB iT3 I (za5 (hv.mono hle)) hgi I) (yM I (yM I (pU I (SU.sliceL ah zT3 I I oM oM) (SP.o I (bS sty25 I I I (ab ⟨I,trivial⟩) dC) dC (.inr iR) ?_)))))));rintro _ _ _ ⟨b50,rfl,rfl,rfl⟩;refine SP.to (fun w hw=>At.litRow (e:=encInt) (l:=[x]) (n:=0) hw I I dC) ?_;refine SP.o I (aQ (e:=encInt) 0 sty25 I I I hc1 (by rw[ze7]; (first | with_reducible rfl | ((try dsimp only); (try simp only[ze3,ze6,zc1,ze5,ze2,ze7])<;>omega))) (by rw[ze7]; (first | with_reducible rfl | ((try dsimp only); (try simp only[ze3,ze6,zc1,ze5,ze2,ze7])<;>omega)))) dC (.inl dC) ?_;rintro v54 _ _ ⟨rfl,rfl⟩;refine pU I (aS I) (pN (tN (sQ (fS fun g2 hle2 hs2=>?_))));have hrest:bC g2 v54 ([x]++out.drop k):=hs2;refine rG (lW (bS sty25 I I I (ab trivial) dC) ?_);rintro _ _ _ ⟨b55,rfl,rfl,rfl⟩;refine SL.emptyRow 3 1 (some ⟨b55,0,none⟩) (lM I (lM I (lU (SU.sliceH ah zT3 I I oM oM) (lW (aQ (e:=encInt) (l:=[]) 0 sty25 I I I (hc2.mono hle2) (by rw[ze2]; (first | with_reducible rfl | ((try dsimp only); (try simp only[ze3,ze6,zc1,ze5,ze2,ze7])<;>omega))) (by rw[ze2]; (first | with_reducible rfl | ((try dsimp only); (try simp only[ze3,ze6,zc1,ze5,ze2,ze7])<;>omega)))) ?_))));rintro v59 _ _ ⟨rfl,rfl⟩;refine lM I (lW (aQ (e:=encInt) 0 sty25 I I I hrest lN lN) ?_);rintro v61 _ _ ⟨rfl,rfl⟩;refine aT I (fS fun g3 hle3 hs3=>?_);have hres:bC g3 v61 (out.take k++x::out.drop k):=(by have h:bC g3 v61 ([]++out.take k++([x]++out.drop k)):=hs3; simpa using h);refine SC.drop (s':=s) (.cons _ (.refl _)) ?_;obtain ⟨q3,d3,rfl⟩:=za2 hres;refine SC.sub (f':=[(0,.slice p l.length c),(4,.slice q3 (out.take k++x::out.drop k).length d3),(5,vi i)]) sB ?_;refine SC.cutB 71 ((decide (x<0)||decide ((((out.take k++x::out.drop k).length:Nat):Int)>9))) ?_ ?_
    ·refine rG (lM I (lM I (lU (iA ah zT3 I I hb1 oM sL) (lK (eB iT3 I (za5 (hv.mono (hle.trans (hle2.trans hle3)))) hgi I) (yL I (lM I ?_))))));refine sP ?_ ?_
     ·intro h67;refine yA I (yA I (yA I (yP I (nL ?_))));exact za8 (by (rw[f1 h67]; rfl)) mI
     ·intro h67;refine yC I (lY I I I (eN ah I) (lY I I I (gR I I) (yF I (nL ?_))));exact za8 (by (rw[f2 h67]; rfl)) mI
    refine iQ I (fun hbad=>?_) (fun hbad=>?_)
    ·have hko:okS l=false:=by
      rw[Bool.or_eq_true,zj1,zj1] at hbad
      rcases hbad with h | h
      ·exact hbad1 h
      ·exact hbad2 hg oM
     refine rZ (lA I (aT I (rE (bR (tR (tR (bR (tR ?_))))))));exact ST.ret2 (.inl I) results47 I I ⟨I,hle.trans (hle2.trans hle3),.inr ⟨hko,I⟩⟩
    ·rw[Bool.or_eq_false_iff,decide_eq_false_iff_not,decide_eq_false_iff_not] at hbad;refine kP (bN (tN (rG (lM I (yD I (lA I (nL ?_)))))));exact gA (g3,_,out.take k++x::out.drop k,i+1) sB I I (hgo g3 q3 d3 hg (hle.trans (hle2.trans hle3)) hres hbad.1 oM) lN
 ·have hii:l.take i=l:=tL oM;rw[hii] at hmem hneg;have hset:=BC hstr hmem;have hok:okS l=true:=by unfold okS; rw[hneg,← hset]; simpa using h9
  refine xI (tX (tX (bX (tN (sW I (lA I (aT I (rE ?_))))))));exact ST.ret2 (.inl I) results47 I I ⟨I,hle,.inl ⟨hok,_,I,by rw[← hset]; exact hov⟩⟩
abbrev ec (l:List (List Int)):Prop:=l.Pairwise fun a b=>ai a b<0
theorem f9 {a b:List Int}(h:ai a b<0):¬ ai b a<0:=by have:=gK a b; omega
theorem ec.srt {l:List (List Int)}(h:ec l):pM l:=h.imp fun h=>f9 h
theorem fZ:∀ {l m:List (List Int)},ec l→ec m→(∀ x,x∈l↔x∈m)→l=m
 | [],[],_,_,_=>rfl
 | [],y::m,_,_,h=>by have:=(h y).2 (by simp); simp at this
 | x::l,[],_,_,h=>by have:=(h x).1 (by simp); simp at this
 | x::l,y::m,hl,hm,h=>by
  obtain ⟨h1,h2⟩:=zj6.1 hl;obtain ⟨h3,h4⟩:=zj6.1 hm;have hxy:x=y:=by
   rcases ze8.1 ((h x).1 (by simp)) with e | hx
   ·exact e
   ·rcases ze8.1 ((h y).2 (by simp)) with e | hy
    ·exact e.symm
    ·exact absurd (h1 y hy) (f9 (h3 x hx))
  subst hxy;have hself:¬ ai x x<0:=by rw[ce]; decide
  rw[fZ h2 h4 fun z=>?_];constructor
  ·intro hz
   rcases ze8.1 ((h z).1 (by simp[hz])) with e | hz'
   ·subst e; exact absurd (h1 z hz) hself
   ·exact hz'
  ·intro hz
   rcases ze8.1 ((h z).2 (by simp[hz])) with e | hz'
   ·subst e; exact absurd (h3 z hz) hself
   ·exact hz'
theorem fV:∀ {x:List Int} {l:List (List Int)},pM (x::l)→ec (bd eqL x l)∧(∀ y∈bd eqL x l,ai x y<0)∧∀ y,y∈l→y=x∨y∈bd eqL x l
 | x,[],_=>⟨List.Pairwise.nil,by simp[bd],by simp⟩
 | x,y::r,h=>by
  obtain ⟨h1,h2⟩:=zj6.1 h;obtain ⟨i1,i2,i3⟩:=fV h2;have hxy:=h1 y (by simp);unfold bd;by_cases e:y=x
  ·subst e;simp only[eqL,decide_true,if_true];refine⟨i1,i2,fun z hz=>?_⟩
   rcases ze8.1 hz with rfl | hz
   ·exact .inl I
   ·exact i3 z hz
  ·have hlt:ai x y<0:=by
    rcases dg x y with h | h | h
    ·exact h
    ·exact absurd h.symm e
    ·exact absurd h hxy
   simp only[eqL,e,decide_false];refine⟨zj6.2 ⟨i2,i1⟩,fun z hz=>?_,fun z hz=>?_⟩
   ·rcases ze8.1 hz with rfl | hz
    ·exact hlt
    ·exact dQ _ _ _ hlt (i2 z hz)
   ·rcases ze8.1 hz with rfl | hz
    ·exact .inr (by simp)
    ·rcases i3 z hz with rfl | h
     ·exact .inr (by simp)
     ·refine .inr ?_;simp;exact .inr h
theorem jD (all:List (List Int))(t:List Int):ec (dL all t):=by
 have hs:=iH (all++bH t);unfold dL;cases h:my (all++bH t) with
 | nil=>exact List.Pairwise.nil
 | cons x r =>
  rw[h] at hs;obtain ⟨h1,h2,_⟩:=fV hs;exact zj6.2 ⟨h2,h1⟩
theorem fw (all:List (List Int))(t x:List Int):x∈dL all t↔x∈all∨x∈bH t:=by
 refine⟨jX,fun h=>?_⟩;have hs:=iH (all++bH t);have hm:x∈my (all++bH t):=(gl _).symm.subset (zf1.2 h);unfold dL;cases hc:my (all++bH t) with
 | nil=>rw[hc] at hm; simp at hm
 | cons y r =>
  rw[hc] at hs hm
  rcases ze8.1 hm with rfl | hm
  ·simp[gh]
  ·rcases (fV hs).2.2 x hm with rfl | h
   ·simp[gh]
   ·simp[gh,h]
theorem mH:∀ {l:List (List Int)} (t:List Int),pM l→(∀ y∈l.take (lbL l t),ai y t<0)∧∀ y∈l.drop (lbL l t),¬ ai y t<0
 | [],t,_=>⟨by simp,by simp⟩
 | a::r,t,hs=>by
  obtain ⟨h1,h2⟩:=zj6.1 hs;obtain ⟨i1,i2⟩:=mH t h2;by_cases ha:ai a t<0
  ·have hl:lbL (a::r) t=lbL r t+1:=by simp[lbL,ha]
   rw[hl,List.take_succ_cons,List.drop_succ_cons];refine⟨fun y hy=>?_,i2⟩
   rcases ze8.1 hy with rfl | hy
   ·exact ha
   ·exact i1 y hy
  ·have hall:∀ y∈a::r,¬ ai y t<0:=fun y hy=>by
    rcases ze8.1 hy with rfl | hy
    ·exact ha
    ·exact fz y a t (h1 y hy) ha
   have hz:lbL (a::r) t=0:=by
    unfold lbL;rw[List.length_eq_zero_iff,List.filter_eq_nil_iff];intro y hy;simpa using hall y hy
   rw[hz];exact⟨by simp,by simpa using hall⟩
theorem tA {l:List (List Int)}{t:List Int}(hs:ec l)(hn:l.contains t=false):ec (l.take (lbL l t)++t::l.drop (lbL l t)):=by
 obtain ⟨h1,h2⟩:=mH t hs.srt;have hs':ec (l.take (lbL l t)++l.drop (lbL l t)):=by rw[zi7]; exact hs
 have h3:=List.pairwise_append.1 hs';refine List.pairwise_append.2 ⟨h3.1,zj6.2 ⟨fun y hy=>?_,h3.2.1⟩,fun y hy z hz=>?_⟩
 ·rcases dg t y with h | h | h
  ·exact h
  ·have:l.contains t=true:=by rw[h]; simpa using List.mem_of_mem_drop hy
   rw[hn] at this; cases this
  ·exact absurd h (h2 y hy)
 ·rcases ze8.1 hz with rfl | hz
  ·exact h1 y hy
  ·exact h3.2.2 y hy z hz
theorem zy (all:List (List Int)):Srt Cl.id (ba all):=by
 unfold Srt;rw[zc6];intro i j hi hj hij;simp[ba,lJ];omega
theorem oO (all:List (List Int)):aa (ba all)=(ba all).map cG:=by
 unfold aa;rw[← dK (zy all) (aN.refl _)]
theorem zn (k:Nat):((k:Nat):Int).tmod 2=((k:Nat):Int) % 2:=Int.tmod_eq_emod_of_nonneg oM
theorem aI (E:World)(g:PH)(s:Own)(v:Value)(ls:List (List Int))(hv:ax g v ls)(hn:ls.length<1099511627776)(hl:∀ x∈ls,x.length<17592186044416) :
  Ctr Tryz.prog E 21 #[v] g s (fun r g' s'=>s=s'∧Le g g'∧∃ u,r = .agg #[u]∧am g' u (bQ ls)):=by
 obtain ⟨rs0,hrs0,hall0⟩:=hv;have hlen0:=hall0.length;obtain ⟨p,c,rfl⟩:=za2 hrs0;refine za9 (args:=[.slice p rs0.length c]) func21 I ntmps21 (bE I) ?_;refine rZ (bW (aL zk9) fun b2=>?_);refine tZ (rZ (aT I (sQ (rZ (aT I (bK ?_))))));refine oP (ι:=PH×Value×List (List Int)×Nat) (fun i=>[(0,.slice p rs0.length c),(2,pp b2 0),(3,i.2.1),(4,vi i.2.2.2)]) (fun i=>i.1)
  (fun _=>pt b2 (.cells #[.slice none 0 0] 30 (0,0))::s)
  (fun i=>Le g i.1∧i.2.2.2≤rs0.length∧ax i.1 i.2.1 i.2.2.1∧(i.2.2.1.length≤4000∧∀ x∈i.2.2.1,x.length≤9)∧ec i.2.2.1∧aG [] ls=aG i.2.2.1 (ls.drop i.2.2.2)) (fun i=>rs0.length - i.2.2.2)
  (g,.slice none 0 0,[],0) sB rfl rfl ⟨zb7 g,zf4 _,⟨[],zb8 g _,trivial⟩,⟨zf4 _,by simp⟩,List.Pairwise.nil,rfl⟩ ?_
 rintro ⟨g1,av,all,i⟩ ⟨hle,hi,hav,⟨hal,has⟩,hstr,hsa⟩;dsimp only at hle hi hav hal has hstr hsa ⊢;refine sQ (sW I (lM I (lU (eN aY I) (yL I (tZ ?_)))));refine iP I (fun hlt=>?_) (fun hlt=>?_)
 ·have hkl:i<ls.length:=oM;have hkr:i<rs0.length:=oM;have hR:=(hall0.get (gE hkl) (gE hkr)).mono hle;have hxl:=hl _ (gM hkl);have hb1:=hrs0.based oM;have hdrop:ls.drop i=ls[i]::ls.drop (i+1):=zg4 hkl;rw[hdrop] at hsa;generalize hx:ls[i]=x at *;generalize hr:rs0[i]=r at *;have hgr:rs0[((i:Nat):Int).toNat]?=some r:=by rw[← hr]; exact gE hkr
  refine kP (tN (sQ (bK (sW I (lM I (lU (iA aY aR I I hb1 oM sL) (lK (eB bM I (hrs0.mono hle).rd hgr I) (lW (cL call47 I (zB E g1 _ _ x hR hxl)) ?_))))))));rintro v31 g2 _ ⟨rfl,hle2,hset⟩;have hav2:=hav.mono hle2
  rcases hset with ⟨hok,u,rfl,hu⟩ | ⟨hok,rfl⟩
  ·obtain ⟨hs9,hsb⟩:=zU hok;obtain ⟨q,d,rfl⟩:=za2 hu;have hpow:=wI (bV x).length hs9;refine lM I (yX I (yX I (lA I (aT I ?_))));refine SC.cut (ι:=PH×Value×List (List Int)) (fun j=>[(0,.slice p rs0.length c),(2,pp b2 0),(3,j.2.1),(4,vi i)]) (fun j=>j.1) (fun _=>pt b2 (.cells #[.slice none 0 0] 30 (0,0))::s)
    (fun j=>Le g j.1∧ax j.1 j.2.1 j.2.2∧ec j.2.2∧(∀ y,y∈j.2.2↔y∈all∨y∈bH (bV x))∧j.2.2.length≤4600) ?_ ?_
   ·refine rZ (aT I (bK ?_));refine oP (ι:=PH×Value×List (List Int)×Nat) (fun j=>[(0,.slice p rs0.length c),(2,pp b2 0),(3,j.2.1),(4,vi i),(5,.slice q (bV x).length d),(6,vb true),(7,vi (j.2.2.2+1:Nat))]) (fun j=>j.1) (fun _=>pt b2 (.cells #[.slice none 0 0] 30 (0,0))::s)
     (fun j=>Le g2 j.1∧j.2.2.2+1≤2 ^ (bV x).length∧ax j.1 j.2.1 j.2.2.1∧ec j.2.2.1∧(∀ y,y∈j.2.2.1↔y∈all∨y∈(List.range j.2.2.2).map fun m=>dT (m+1) (bV x))∧j.2.2.1.length≤4000+j.2.2.2) (fun j=>2 ^ (bV x).length - j.2.2.2)
     (g2,av,all,0) sB rfl rfl ⟨zb7 g2,Nat.one_le_two_pow,hav2,hstr,by simp,lN⟩ ?_
    rintro ⟨g3,bv,al,b⟩ ⟨hle3,hb,hbv,hbs,hbm,hbl⟩;dsimp only at hle3 hb hbv hbs hbm hbl ⊢;have hals:∀ y∈al,y.length≤9:=fun y hy=>by
     rcases (hbm y).1 hy with h | h
     ·exact has y h
     ·obtain ⟨m,_,rfl⟩:=ze9.1 h;exact zk2 (eW _ _) hs9
    refine sQ (sW I (lM I (yC I (yC I (lY I I I (eN ah I) (lY I I I (SU.eq (v':=vi ((2 ^ (bV x).length:Nat):Int)) (SU.shl I I oM) (zd9 vi (wS (bV x).length oM))) (lY I I I (lS I I) (yP I (tZ ?_)))))))));refine iP I (fun hlt2=>?_) (fun hlt2=>?_)
    ·have hbl2:b+1<2 ^ (bV x).length:=oM;refine kP (tN (sQ (bK (rZ (aT I (sQ (sQ (zb4 3 1 (rG (aT I (bK ?_)))))))))));refine oP (ι:=Value×Nat) (fun k=>[(0,.slice p rs0.length c),(2,pp b2 0),(3,bv),(4,vi i),(5,.slice q (bV x).length d),(6,vb true),(7,vi (b+1:Nat)),(8,k.1),(9,vi k.2)]) (fun _=>g3)
      (fun k=>rowA encInt 3 k.1 (dT (b+1) ((bV x).take k.2))::pt b2 (.cells #[.slice none 0 0] 30 (0,0))::s) (fun k=>k.2≤(bV x).length) (fun k=>(bV x).length - k.2) (.slice none 0 0,0)
      sB rfl rfl (zf4 _) ?_
     rintro ⟨cv,k⟩ hk;dsimp only at hk ⊢;have hpl:=eW (b+1) ((bV x).take k);rw[ze2] at hpl;refine sQ (sW I (lM I (lU (eN ah I) (yL I (tZ ?_)))));refine iP I (fun hlt3=>?_) (fun hlt3=>?_)
     ·have hkl:k<(bV x).length:=oM;have hbu:=za4 (hu.mono hle3) oM;have hsucc:=ox (bits:=b+1) hkl;refine kP (tN (sQ (bK (sW I (lM I (lU (SU.shr I I oM) (lU (SU.eq (v':=vi (((b+1) / 2 ^ k % 2:Nat):Int)) (SU.and I I) (zd9 vi ((o6 _).trans (wR (b+1) k oM)))) (yE I (tZ ?_)))))))));refine iP I (fun hbit=>?_) (fun hbit=>?_)
      ·refine rG (lM I (lM I (lM I (lU (iA ah zT3 I I hbu oM sL) ?_))));refine SL.q (eB iT3 I (za5 (hu.mono hle3)) (gE hkl) I) dC ?_;refine lW (bS sty25 I I I (ab sB) dC) ?_;rintro _ _ _ ⟨b60,rfl,rfl,rfl⟩;refine lW (aP (e:=encInt) 0 (bV x)[k] sty25 I I I I I oM oM) ?_;rintro cv' _ _ ⟨rfl,rfl⟩;refine lA I (nL (bN (tN (rG (lM I (yD I (lA I (nL ?_))))))));refine ST.to (fun w hw=>?_) (g':=g3) (s':=rowA encInt 3 cv' (dT (b+1) ((bV x).take (k+1)))::pt b2 (.cells #[.slice none 0 0] 30 (0,0))::s) ?_
       ·rw[hsucc,zf8 oM]; exact hw
       exact gA (cv',k+1) sB I I lN lN
      ·refine kP (bN (tN (rG (lM I (yD I (lA I (nL ?_)))))));refine ST.to (fun w hw=>?_) (g':=g3) (s':=rowA encInt 3 cv (dT (b+1) ((bV x).take (k+1)))::pt b2 (.cells #[.slice none 0 0] 30 (0,0))::s) ?_
       ·rw[hsucc,zf7 oM]; exact hw
       exact gA (cv,k+1) sB I I lN lN
     ·have hkk:(bV x).take k=bV x:=tL oM;have htl:=eW (b+1) (bV x);have hmem2:∀ nw:List (List Int),(∀ y,y∈nw↔y=dT (b+1) (bV x)∨y∈al)→∀ y,y∈nw↔y∈all∨y∈(List.range (b+1)).map fun m=>dT (m+1) (bV x):=fun nw h y=>by
       rw[h,hbm,List.range_succ,zg3,zf1];simp;constructor
       ·rintro (h | h | h)
        ·exact .inr (.inr h)
        ·exact .inl h
        ·exact .inr (.inl h)
       ·rintro (h | h | h)
        ·exact .inr (.inl h)
        ·exact .inr (.inr h)
        ·exact .inl h
      generalize hpk:dT (b+1) (bV x)=t at *;refine xI (tX (tX (bX (tN (sQ (fS fun g4 hle4 hs4=>?_))))));rw[hkk,hpk] at hs4;have ht:bC g4 cv t:=hs4;have hbv4:=hbv.mono hle4;refine rG (lM I (lM I (lW (cL call48 I (ow E g4 _ _ _ al t hbv4 ht oM (fun y hy=>by have:=hals y hy; omega) oM hbs.srt)) ?_)));rintro _ _ _ ⟨rfl,rfl,rfl⟩;refine lM I (yX I (yX I (lA I (aT I (sW I (lU (SU.not I) (tZ ?_)))))));refine iQ I (fun hthere=>?_) (fun hthere=>?_)
      ·have hth:al.contains t=false:=by simpa using hthere
       have hlb:=wJ al t;obtain ⟨ra,hra,halr⟩:=hbv4;have hral:=halr.length;obtain ⟨qa,da,rfl⟩:=za2 hra;have hcapa:=(SlA.cap hra).2;obtain ⟨qt,dt,rfl⟩:=za2 ht;have hca:=SlA.cut hra (l:=lbL al t) (m:=ra.length) oM (lR _);have hcb:=SlA.cut hra (l:=0) (m:=lbL al t) (zf4 _) oM;rw[tL (by rw[ze7]; exact lR _)] at hca;rw[List.drop_zero,Nat.sub_zero] at hcb;refine sW I (lW (bS sty22 I I I (ab ⟨I,trivial⟩) dC) ?_);rintro _ _ _ ⟨b71,rfl,rfl,rfl⟩;refine SL.to (fun w hw=>At.litRow (e:=ak) (l:=[⟨qt,t.length,dt⟩]) (n:=0) hw I I dC) ?_;refine lM I (lM I (lU (SU.sliceL aY aR I I oM oM) (lW (aQ (e:=ak) 0 sty22 I I I hca (by rw[ze7]; (first | with_reducible rfl | ((try dsimp only); (try simp only[ze3,ze6,zc1,ze5,ze2,ze7])<;>omega))) (by rw[ze7]; (first | with_reducible rfl | ((try dsimp only); (try simp only[ze3,ze6,zc1,ze5,ze2,ze7])<;>omega)))) ?_)));rintro v75 _ _ ⟨rfl,rfl⟩;refine aT I (fS fun g5 hle5 hs5=>?_);have hrest:SlA ak g5 v75 ([⟨qt,t.length,dt⟩]++ra.drop (lbL al t)):=hs5;refine rG (lW (bS sty22 I I I (ab trivial) dC) ?_);rintro _ _ _ ⟨b76,rfl,rfl,rfl⟩;refine SL.emptyRow 25 1 (some ⟨b76,0,none⟩) (lM I (lM I (lU (SU.sliceH aY aR I I oM oM) (lW (aQ (e:=ak) (l:=[]) 0 sty22 I I I (hcb.mono hle5) (by rw[ze2]; (first | with_reducible rfl | ((try dsimp only); (try simp only[ze3,ze6,zc1,ze5,ze2,ze7])<;>omega))) (by rw[ze2]; (first | with_reducible rfl | ((try dsimp only); (try simp only[ze3,ze6,zc1,ze5,ze2,ze7])<;>omega)))) ?_))));rintro v80 _ _ ⟨rfl,rfl⟩;refine lM I (lW (aQ (e:=ak) 0 sty22 I I I hrest lN lN) ?_);rintro v82 _ _ ⟨rfl,rfl⟩;refine lA I (nL (bN (tN (rG (lM I (yD I (lA I (nL (fT fun g6 hle6 hs6=>?_)))))))));refine dR (s':=pt b2 (.cells #[.slice none 0 0] 30 (0,0))::s) (.cons _ (.refl _)) ?_;have hres:ax g6 v82 (al.take (lbL al t)++t::al.drop (lbL al t)):=by
        refine⟨ra.take (lbL al t)++⟨qt,t.length,dt⟩::ra.drop (lbL al t),?_,?_⟩
        ·have h:SlA ak g6 v82 ([]++ra.take (lbL al t)++([⟨qt,t.length,dt⟩]++ra.drop (lbL al t))):=hs6;simpa using h
        ·exact ((az.take _ halr).mono fun _ _=>a7.mono (hle5.trans hle6)).append ⟨ht.mono (hle5.trans hle6),(az.drop _ halr).mono fun _ _=>a7.mono (hle5.trans hle6)⟩
       exact gA (g6,v82,al.take (lbL al t)++t::al.drop (lbL al t),b+1) ⟨I,I,I,I,I,I,bP (by simp),trivial⟩ I I ⟨hle3.trans (hle4.trans (hle5.trans hle6)),hbl2,hres,tA hbs hth,hmem2 _ (fun y=>w4),lN⟩ lN
      ·have hth:t∈al:=by simpa using hthere
       refine kP (bN (tN (rG (lM I (yD I (lA I (nL ?_)))))));exact gA (g4,bv,al,b+1) ⟨I,I,I,I,I,I,bP (by simp),trivial⟩ I I ⟨hle3.trans hle4,hbl2,hbv4,hbs,hmem2 _ (fun y=>⟨.inr,fun h=>h.elim (fun e=>by rw[e]; exact hth) id⟩),lN⟩ lN
    ·have hbb:b=2 ^ (bV x).length - 1:=oM;refine xI (tX (tX (bX ?_)));exact za7 (g3,bv,al) sB I I ⟨hle.trans (hle2.trans hle3),hbv,hbs,fun y=>by dsimp only; rw[hbm]; unfold bH; rw[hbb],lN⟩
   ·rintro ⟨g3,bv,al⟩ ⟨hle3,hbv,hbs,hbm,hbl⟩;dsimp only at hle3 hbv hbs hbm hbl ⊢;have hals:∀ y∈al,y.length≤9:=fun y hy=>by
     rcases (hbm y).1 hy with h | h
     ·exact has y h
     ·exact fY hs9 y h
    have key:((al.length:Int)>4000→aG [] ls=none)∧(¬ (al.length:Int)>4000→aG [] ls=aG al (ls.drop (i+1))):=by
     by_cases hb:iu (bV x)=true
     ·have he:=hsb hb;have hal2:al=all:=fZ hbs hstr fun y=>by rw[hbm,he]; simp[bH]
      refine⟨fun h=>by rw[hal2] at h; omega,fun _=>by rw[hsa,aG,zf8 hb,hal2]⟩
     ·have hal2:al=dL all (bV x):=fZ hbs (jD _ _) fun y=>by rw[hbm,fw]
      refine⟨fun h=>by rw[hsa,aG,zf7 hb,zf8 (by rw[← hal2]; exact h)],fun h=>by rw[hsa,aG,zf7 hb,zf7 (by rw[← hal2]; exact h),← hal2]⟩
    obtain ⟨ra,hra,halr⟩:=hbv;have hbv:ax g3 bv al:=⟨ra,hra,halr⟩;have hral:=halr.length;obtain ⟨qa,da,rfl⟩:=za2 hra;refine sW I (lU (eN aY I) (lU (gR I I) (tZ ?_)));refine iP I (fun hmany=>?_) (fun hmany=>?_)
    ·refine rZ (lU (za1 I (buildE30)) (oZ (sK 0 aw I I I I I sB) ?_));refine tZ (rE (bR (tR (tR (bR (tR ?_))))));exact ST.retCD 0 s (.inl I) results21 I bh aw I I uR ⟨I,hle3,_,I,by simp only[bQ,key.1 oM]; exact⟨[],zb8 _ _,trivial⟩⟩
    ·refine kP (bN (tN (rG (lM I (yD I (lA I (nL ?_)))))));exact gA (g3,_,al,i+1) sB I I ⟨hle3,lN,hbv,⟨lN,hals⟩,hbs,key.2 oM⟩ lN
  ·have hb:=BQ hok;obtain ⟨ra,hra,halr⟩:=hav2;have hav2:ax g2 av all:=⟨ra,hra,halr⟩;have hral:=halr.length;obtain ⟨qa,da,rfl⟩:=za2 hra;refine lM I (yX I (yX I (lA I (aT I (sQ (rZ (aT I (bK ?_))))))));refine oP (ι:=Unit) (fun _=>[(0,.slice p rs0.length c),(2,pp b2 0),(3,.slice qa ra.length da),(4,vi i),(5,.slice none 0 0),(6,vb false),(7,vi 1)]) (fun _=>g2) (fun _=>pt b2 (.cells #[.slice none 0 0] 30 (0,0))::s) (fun _=>True) (fun _=>0) () sB I I trivial ?_;rintro ⟨⟩ -;refine sQ (sW I (lM I (yA I (yA I (yA I (yA I (yA I (yF I (tZ (cF I (xI (tX (tX (bX (tN (sW I (lU (eN aY I) (lU (gR I I) (tZ ?_)))))))))))))))))));refine iP I (fun hmany=>?_) (fun hmany=>?_)
   ·exfalso;omega
   ·refine kP (bN (tN (rG (lM I (yD I (lA I (nL ?_)))))));exact gA (g2,_,all,i+1) sB I I ⟨hle.trans hle2,lN,hav2,⟨hal,has⟩,hstr,by dsimp only; rw[hsa,aG,zf8 hb]⟩ lN
 ·have hk0:i=rs0.length:=oM;have hsome:aG [] ls=some all:=by rw[hsa,hk0,← hlen0,List.drop_length]; rfl
  obtain ⟨rs,hrs,hall⟩:=hav;have hav:ax g1 av all:=⟨rs,hrs,hall⟩;have hrl:=hall.length;obtain ⟨q,d,rfl⟩:=za2 hrs;refine xI (tX (tX (bX (tN (rZ (bW (aL zk9) fun b13=>?_))))));refine tZ (sQ (rZ (aT I (bK (zb4 63 3 ?_)))));refine oP (ι:=PH×Value×List Rc×Nat) (fun i=>[(2,pp b2 0),(3,.slice q rs.length d),(13,pp b13 0),(14,vi i.2.2.2)]) (fun i=>i.1)
   (fun i=>rowA encCell 63 i.2.1 i.2.2.1::pt b13 (.cells #[i.2.1] 30 (0,0))::pt b2 (.cells #[.slice none 0 0] 30 (0,0))::s)
   (fun i=>Le g1 i.1∧i.2.2.2≤rs.length∧az (aC i.1) (((ba all).take i.2.2.2).map cG) i.2.2.1) (fun i=>rs.length - i.2.2.2)
   (g1,.slice none 0 0,[],0) sB rfl rfl ⟨zb7 g1,zf4 _,trivial⟩ ?_
  rintro ⟨g3,ov,rcs,n⟩ ⟨hle3,hn3,hrcs⟩;dsimp only at hle3 hn3 hrcs ⊢;have hrcl:=hrcs.length;rw[ze4,ze2,bD] at hrcl;refine sQ (sW I (lM I (lU (eN aY I) (yL I (tZ ?_)))));refine iP I (fun hlt2=>?_) (fun hlt2=>?_)
  ·have hnl:n<all.length:=oM;have hnr:n<rs.length:=oM;have hb1:=hrs.based oM;have hR:=(hall.get (gE hnl) (gE hnr)).mono hle3;have hRl:=hR.len;have hx9:=has _ (gM hnl);have hget:=ib hnl;generalize hx:all[n]=x at *;generalize hr:rs[n]=r at *;obtain ⟨rp,rn,rc⟩:=r;dsimp only at hRl;subst hRl;have hxs:bC g3 (.slice rp x.length rc) x:=hR;have hgr:rs[((n:Nat):Int).toNat]?=some ⟨rp,x.length,rc⟩:=by rw[← hr]; exact gE hnr
   refine kP (tN (sQ (bK (sW I (yD I (lM I (lM I (lU (iA aY aR I I hb1 oM sL) (lK (eB (u:=.slice rp x.length rc) bM I (hrs.mono hle3).rd hgr I) (lU (eN ah I) (lU (sU I I oM) (lU (za1 I (buildC63 _ _)) (bW (aL zk8) fun b15=>?_)))))))))))));refine oZ (sK 0 au I I I I I sB) ?_;refine tZ ?_;refine SC.cut (ι:=PH×Value) (fun i=>[(2,pp b2 0),(3,.slice q rs.length d),(13,pp b13 0),(14,vi n),(15,pp b15 0)]) (fun i=>i.1)
    (fun i=>rowA encSide 87 i.2 (aW all x x.length)::pt b15 (.cells #[vi ((n:Int)+1),vi ((x.length:Int) - 1),i.2] 63 (0,0))::rowA encCell 63 ov rcs::pt b13 (.cells #[ov] 30 (0,0))::pt b2 (.cells #[.slice none 0 0] 30 (0,0))::s)
    (fun i=>Le g3 i.1) ?_ ?_
   ·refine sQ (zb4 87 2 (rG (aT I (bK ?_))));refine oP (ι:=PH×Value×Nat) (fun i=>[(2,pp b2 0),(3,.slice q rs.length d),(13,pp b13 0),(14,vi n),(15,pp b15 0),(16,vi i.2.2)]) (fun i=>i.1)
     (fun i=>rowA encSide 87 i.2.1 (aW all x i.2.2)::pt b15 (.cells #[vi ((n:Int)+1),vi ((x.length:Int) - 1),i.2.1] 63 (0,0))::rowA encCell 63 ov rcs::pt b13 (.cells #[ov] 30 (0,0))::pt b2 (.cells #[.slice none 0 0] 30 (0,0))::s)
     (fun i=>Le g3 i.1∧i.2.2≤x.length) (fun i=>x.length - i.2.2)
     (g3,.slice none 0 0,0) sB rfl rfl ⟨zb7 g3,zf4 _⟩ ?_
    rintro ⟨g4,sv,j⟩ ⟨hle4,hj⟩;dsimp only at hle4 hj ⊢;have hssl:=dU all x j;have hsucc:=eS all x j;have hxs4:bC g4 (.slice rp x.length rc) x:=hxs.mono hle4;by_cases hjl:j<x.length
    ·have hjd:((j:Nat):Int)<((x.length:Nat):Int):=oM;by_cases hdim:((x.length:Int) - 1)>0
     ·have hel:(x.eraseIdx j).length=x.length - 1:=by rw[List.length_eraseIdx]; simp[hjl]
      have hside:eJ all x j=[⟨lbL all (x.eraseIdx j)+1,cB j⟩]:=by unfold eJ; rw[zf8 oM]
      have hlb:=wJ all (x.eraseIdx j);rw[hside] at hsucc;have hcap:=(SlA.cap hxs4).2;have hc1:=SlA.cut hxs4 (l:=0) (m:=j) oM oM;have hc2:=SlA.cut hxs4 (l:=j+1) (m:=x.length) oM oM;have he1:(x.drop 0).take (j - 0)=x.take j:=by simp
      have he2:(x.drop (j+1)).take (x.length - (j+1))=x.drop (j+1):=tL (by rw[ze7]; omega);rw[he1] at hc1;rw[he2] at hc2;have her:[]++x.take j++x.drop (j+1)=x.eraseIdx j:=by rw[List.eraseIdx_eq_take_drop_succ]; simp
      have hcl1:([]++x.take j).length=j:=by simp; omega
      refine sQ (sW I (lM I (lM I (lU (iA aY aR I I hb1 oM sL) (lK (eB (u:=.slice rp x.length rc) bM I (hrs.mono (hle3.trans hle4)).rd hgr I) (lU (eN ah I) (lU (SU.eq (v':=vb true) (lS I I) (zd9 vb (zf6 hjd))) (lM I (lY I I I (fA ao I zT3 I) (SL.gq (gT I I I dC) (qL (v:=vi ((x.length:Int) - 1)) iT3 I (cO 1 I I)) dC (lY I I I (SU.eq (v':=vb true) (gR I I) (zd9 vb (zf6 hdim))) (yP I (tZ (cT I (kP (tN (sQ (bK (sQ ?_)))))))))))))))))));refine dW [15] [(1,2),(2,2),(3,2),(4,1),(5,2),(6,2),(8,2),(9,2),(10,2),(11,1),(12,2),(13,2),(14,2),(0,0),(7,0),(15,0),(16,2)] ze1 kR ?_;refine yM I (yM I (pU I (iA aY aR I I hb1 oM sL) (pK I (eB (u:=.slice rp x.length rc) bM I (hrs.mono (hle3.trans hle4)).rd hgr I) (yM I (pU I (SU.sliceH ah zT3 I I oM oM) (yM I (yM I (pU I (iA aY aR I I hb1 oM sL) (pK I (eB (u:=.slice rp x.length rc) bM I (hrs.mono (hle3.trans hle4)).rd hgr I) (yM I (pU I (aD I I oM) (pU I (SU.eq (v':=sliced rp (j+1) x.length rc 1) (SU.sliceL ah zT3 I I oM oM) (by rw[show ((j:Int)+1).toNat=j+1 by omega])) ?_))))))))))));refine SP.o I (bS sty25 I I I (ab trivial) dC) dC (.inr iR) ?_;rintro _ _ _ ⟨b116,rfl,rfl,rfl⟩;refine SP.to (fun w hw=>hw.emptyRow 3 1 (some ⟨b116,0,none⟩)) ?_;refine SP.o I (aQ (e:=encInt) (l:=[]) 0 sty25 I I I hc1 (by rw[ze2]; (first | with_reducible rfl | ((try dsimp only); (try simp only[ze3,ze6,zc1,ze5,ze2,ze7])<;>omega))) (by rw[ze2]; (first | with_reducible rfl | ((try dsimp only); (try simp only[ze3,ze6,zc1,ze5,ze2,ze7])<;>omega)))) dC (.inr iR) ?_;rintro v123 _ _ ⟨rfl,rfl⟩;refine SP.o I (aQ (e:=encInt) 0 sty25 I I I hc2 (by rw[ze7,hcl1]; omega) (by rw[ze7,hcl1]; omega)) dC (.inl dC) ?_;rintro v131 _ _ ⟨rfl,rfl⟩;refine pU I (aS I) (pN (tN (sQ (fS fun g6 hle6 hs6=>?_))));have hrest:bC g6 v131 (x.eraseIdx j):=(by rw[← her]; exact hs6);refine SC.drop (s':=rowA encSide 87 sv (aW all x j)::pt b15 (.cells #[vi ((n:Int)+1),vi ((x.length:Int) - 1),sv] 63 (0,0))::rowA encCell 63 ov rcs::pt b13 (.cells #[ov] 30 (0,0))::pt b2 (.cells #[.slice none 0 0] 30 (0,0))::s) (.cons _ (.refl _)) (rG (lM I (lM I (lW (cL call48 I (ow E g6 _ _ _ all (x.eraseIdx j) (hav.mono (hle3.trans (hle4.trans hle6))) hrest oM (fun y hy=>by have:=has y hy; omega) oM hstr.srt)) ?_))));rintro _ _ _ ⟨rfl,rfl,rfl⟩;refine lM I (yX I (yX I (lA I (aT I (rG (lU (fA ao I bI I) (lK (qL (v:=sv) cQ I (cO 1 I I)) (lM I (yD I (lM I (lU (SU.eq (v':=vi ((j:Int) % 2)) (zd5 I I dC) (zd9 vi (zn j))) (lU (SU.mul I I oM) (lU (SU.eq (v':=vi (cB j)) (sU I I oM) I) (lU (za1 I (buildS87 _ _)) (lW (bS sty61 I I I (ab sB) dC) ?_)))))))))))))));rintro _ _ _ ⟨b147,rfl,rfl,rfl⟩;refine lW (aP (e:=encSide) 0 ⟨lbL all (x.eraseIdx j)+1,cB j⟩ sty61 I I I I I oM oM) ?_;rintro v148 _ _ ⟨rfl,rfl⟩;rw[← hsucc];refine zc9 fun ⟨w0,hw0⟩=>?_;obtain ⟨q148,d148,rfl⟩:=ag (i:=0) hw0 rfl;clear hw0 w0;refine lU (fA ao rfl bI rfl) (oZ (SO.store1 1 bI rfl rfl rfl rfl (bE rfl) (by rfl)) ?_);refine nL (bN (tN (rG (lM I (yD I (lA I (nL ?_)))))));exact gA (g6,_,j+1) sB I I ⟨hle4.trans hle6,lN⟩ lN
     ·have hx1:x.length=1:=oM;have hj0:j=0:=oM;have hempty:aW all x x.length=aW all x j:=by
       rw[hx1,hj0];have h0:=eS all x 0;have hs0:eJ all x 0=[]:=by
        unfold eJ;rw[zf7];rw[List.length_eraseIdx];simp[hx1]
       rw[h0,hs0,zc3]
      rw[← hempty];refine sQ (sW I (lM I (lM I (lU (iA aY aR I I hb1 oM sL) (lK (eB (u:=.slice rp x.length rc) bM I (hrs.mono (hle3.trans hle4)).rd hgr I) (lU (eN ah I) (lU (SU.eq (v':=vb true) (lS I I) (zd9 vb (zf6 hjd))) (lM I (lY I I I (fA ao I zT3 I) (SL.gq (gT I I I dC) (qL (v:=vi ((x.length:Int) - 1)) iT3 I (cO 1 I I)) dC (lY I I I (SU.eq (v':=vb false) (gR I I) (zd9 vb (zf5 hdim))) (yP I (tZ (cF I (xI (tX (tX (bX ?_))))))))))))))))));exact za7 (g4,sv) sB I I hle4
    ·have hjd:¬ ((j:Nat):Int)<((x.length:Nat):Int):=oM;have hjj:j=x.length:=oM;subst hjj;refine sQ (sW I (lM I (lM I (lU (iA aY aR I I hb1 oM sL) (lK (eB (u:=.slice rp x.length rc) bM I (hrs.mono (hle3.trans hle4)).rd hgr I) (lU (eN ah I) (lU (SU.eq (v':=vb false) (lS I I) (zd9 vb (zf5 hjd))) (lM I (yA I (yA I (yA I (yF I (tZ (cF I (xI (tX (tX (bX ?_))))))))))))))))));exact za7 (g4,sv) sB I I hle4
   ·rintro ⟨g4,sv⟩ hle4;dsimp only at hle4 ⊢;have hssl:=dU all x x.length;refine rZ (fR fun g5 hle5 hs5=>?_);have hsd:SlA encSide g5 sv (aW all x x.length):=hs5;refine lU (fA ao I bI I) (lK (qL (v:=sv) cQ I (cO 0 I I)) (lW (cL call49 I (od E g5 _ _ (aW all x x.length) hsd oM)) ?_));rintro v152 g6 _ ⟨rfl,hle6,hs6⟩;obtain ⟨q6,d6,rfl⟩:=za2 hs6;obtain ⟨nc,hnc⟩:∃ nc:Rc,nc=⟨(n:Int)+1,(x.length:Int) - 1,⟨q6,(sortBy aj.cell (aW all x x.length)).length,d6⟩⟩:=⟨_,rfl⟩;refine lU (fA ao rfl bI rfl) (oZ (SO.store1 0 bI rfl rfl rfl rfl (bE rfl) (by rfl)) ?_);refine tZ (rG (lU (fA ed I c8 I) (lK (qL eY I (cO 2 I I)) (lK (qV 0 eX au I I I) (lW (bS sty28 I I I (ab sB) dC) ?_)))));rintro _ _ _ ⟨b157,rfl,rfl,rfl⟩;refine lW (aP (e:=encCell) 1 nc sty28 I I I I (by rw[hnc]; rfl) oM oM) ?_;rintro v158 _ _ ⟨rfl,rfl⟩;refine zc9 fun ⟨w0,hw0⟩=>?_;obtain ⟨q158,d158,rfl⟩:=ag (i:=1) hw0 rfl;clear hw0 w0;refine lU (fA ed I c8 I) (oZ (sK 2 c8 I I I I I sB) ?_);refine nL (bN (tN (rG (lM I (yD I (lA I (nL (dR (s':=rowA encCell 63 (.slice q158 (rcs++[nc]).length d158) (rcs++[nc])::pt b13 (.cells #[.slice q158 (rcs++[nc]).length d158] 30 (0,0))::pt b2 (.cells #[.slice none 0 0] 30 (0,0))::s) (.cons _ (.refl _)) ?_))))))));refine gA (g6,_,rcs++[nc],n+1) sB I I ⟨hle3.trans (hle4.trans (hle5.trans hle6)),lN,?_⟩ lN;dsimp only;rw[eT hget,zg3];exact (hrcs.mono fun _ _=>aC.mono (hle4.trans (hle5.trans hle6))).append ⟨(by rw[hnc]; exact⟨I,I,hs6⟩),trivial⟩
  ·have hnn:n=rs.length:=oM;have htk:(ba all).take n=ba all:=tL (by rw[bD]; omega);rw[htk] at hrcs;refine xI (tX (tX (bX (tN (sQ (fS fun g4 hle4 hs4=>?_))))));have hov:am g4 ov (bQ ls):=(by simp only[bQ,hsome,oO]; exact⟨rcs,hs4,hrcs.mono fun _ _=>aC.mono hle4⟩);obtain ⟨q9,d9,rfl⟩:=hov.form;refine rG (lK (qV 0 bh aw I I I) (oZ (sK 1 aw I I I I I sB) ?_));refine tZ (rE ?_);exact ST.retCD 1 s (.inl I) results21 I bh aw I I uR ⟨I,hle.trans (hle3.trans hle4),_,I,hov⟩
set_option maxHeartbeats 2000000
theorem de {l:List Cl}(h:(aF l).2=0):l.length≤4000∧(aa l).Pairwise (fun a b=>a.id<b.id)∧ae l=aa l∧∀ x∈aa l,cz (ae l) x=0:=by
 unfold aF at h;split at h
 ·exact absurd h dC
 ·rename_i hl;cases hc:fN (ae l) (aa l) 0 with
  | some p=>rw[hc] at h; exact absurd h (sw hc)
  | none =>
   have hst:=(jV hc).2;exact⟨oM,hst,bg hst,kr hc⟩
theorem uF:∀ {l:List Int} {k:Nat} (h:k<l.length),l.Pairwise (· < ·)→lbI l l[k]=k:=by
 intro l;induction l with
 | nil=>intro k h; simp at h
 | cons a r ih =>
  intro k h hs;obtain ⟨h1,h2⟩:=zj6.1 hs;cases k with
  | zero =>
   unfold lbI;rw[List.length_eq_zero_iff,List.filter_eq_nil_iff];intro y hy
   rcases ze8.1 hy with rfl | hy
   ·simp
   ·have:=h1 y hy; simp; omega
  | succ k =>
   have hk:k<r.length:=by simpa using h
   have hlt:=h1 r[k] (gM hk);have:=ih hk h2;unfold lbI at this ⊢;simp[hlt,this]
theorem uY {tl:List Cl}(hs:(tl.map Cl.id).Pairwise (· ≤ ·)){id:Int}(h:(aJ tl id).isSome=true):atC tl id=lbI (tl.map Cl.id) id:=by
 obtain ⟨c,hc⟩:=zh6.1 h;have hm:(tl.map Cl.id).contains id=true:=by
  obtain ⟨h1,h2⟩:=cI hc;simp;exact⟨c,h1,h2⟩
 unfold atC;rw[zf8 hm]
def cf (a b:List Cl):Bool:=!decide ((aF a).2=0) || !decide ((aF b).2=0)||decide (((ae a).length:Int) * (ae b).length>4000)
def bL (a b:List Cl):List Cl:=if cf a b then [] else if (aF (cU a b)).2=0 then aa (cU a b) else []
theorem lg {α β:Type}{l:List α}{i:Nat}(h:i<l.length)(f:α→List β):(l.take (i+1)).flatMap f=(l.take i).flatMap f++f l[i]:=by
 rw[tS h,List.flatMap_append];simp
theorem ex (E:World)(g:PH)(s:Own)(v u:Value)(a b:List Cl)(hv:am g v a)(hu:am g u b)(ha:cR a)(hb:cR b) :
  Ctr Tryz.prog E 57 #[.agg #[v],.agg #[u]] g s (fun r g' s'=>s=s'∧Le g g'∧∃ x,r = .agg #[x]∧am g' x (bL a b)):=by
 obtain ⟨vp0,vc0,hvf⟩:=hv.form;obtain ⟨up0,uc0,huf⟩:=hu.form;have hbadA:¬ (aF a).2=0→cf a b=true:=fun h=>by simp[cf,h]
 have hbadB:(aF a).2=0→¬ (aF b).2=0→cf a b=true:=fun h h2=>by simp[cf,h2]
 have hbadC:(aF a).2=0→(aF b).2=0→cf a b=decide (((ae a).length:Int) * (ae b).length>4000):=fun h h2=>by simp[cf,h,h2]
 have hta:=jH a;have htb:=jH b;have hmul:(aF a).2=0→(aF b).2=0→((ae a).length:Int) * (ae b).length≤16000000∧0≤((ae a).length:Int) * (ae b).length:=fun h h2=>tt (zk2 hta (de h).1) (zk2 htb (de h2).1);refine za9 (args:=[.agg #[v],.agg #[u]]) func57 I ntmps57 (bE I) ?_;refine rZ (bW (bO I) fun b2=>?_);refine bW (bO I) fun b3=>?_;refine bW (aL zk9) fun b4=>?_;refine tZ (rZ (lK (qV 2 bh aw I I I) (lW (cL call40 I (fk E g _ _ a hv ha)) ?_)));rintro _ g1 _ ⟨rfl,rfl,hle1⟩;refine aT I (rZ (lK (qV 1 bh aw I I I) (lW (cL call40 I (fk E g1 _ _ b (hu.mono hle1) hb)) ?_)));rintro _ g2 _ ⟨rfl,rfl,hle2⟩;refine aT I (rZ (lK (qV 2 bh aw I I I) (lW (cL call61 I (bJ E g2 _ _ a (hv.mono (hle1.trans hle2)) ha)) ?_)));rintro v24 g3 _ ⟨rfl,hle3,hA⟩;refine aT I (rZ (lK (qV 1 bh aw I I I) (lW (cL call61 I (bJ E g3 _ _ b (hu.mono (hle1.trans (hle2.trans hle3))) hb)) ?_)));rintro v26 g4 _ ⟨rfl,hle4,hB⟩;obtain ⟨ra,hra0,halla0⟩:=hA;have hra:=hra0.mono hle4;have halla:=halla0.mono fun _ _=>aC.mono hle4;obtain ⟨rb,hrb,hallb⟩:=hB;have eal:=halla.length;have ebl:=hallb.length;obtain ⟨pa,ca,rfl⟩:=hra.form;obtain ⟨pb,cb,rfl⟩:=hrb.form;refine aT I (sQ ?_);refine SC.cutB 40 ((cf a b)) ?_ ?_
 ·refine rG (lM I (lU (SU.notP I) (lM I ?_)));refine sP ?_ ?_
  ·intro h29;refine yA I (yA I (yP I (lM I (yA I (yA I (yA I (yA I (yA I (yA I (yP I (nL ?_)))))))))));exact za8 (by (rw[hbadA h29]; rfl)) mI
  ·intro h29;refine yC I (lY I I I (SU.notP I) (yF I (lM I ?_)));refine sP ?_ ?_
   ·intro h33;refine yA I (yA I (yA I (yA I (yA I (yA I (yP I (nL ?_)))))));exact za8 (by (rw[hbadB (zg7 h29) h33]; rfl)) mI
   ·intro h33;refine yC I (lY I I I (eN aA I) (yC I (lY I I I (eN aA I) (lY I I I (SU.mul I I (by have:=hmul (zg7 h29) (zg7 h33); rw[eal,ebl] at this; omega)) ?_))));refine lY I I I (gR I I) (yF I (nL ?_));exact za8 (by (rw[hbadC (zg7 h29) (zg7 h33),eal,ebl]; rfl)) mI
 refine iQ I (fun hbad=>?_) (fun hbad=>?_)
 ·refine rZ (lU (za1 I (buildE30)) (oZ (sK 0 aw I I I I I sB) ?_));refine tZ (rE (tR ?_));exact ST.retCD 0 s (.inl I) results57 I bh aw I I uR ⟨I,hle1.trans (hle2.trans (hle3.trans hle4)),_,I,by unfold bL; rw[zf8 hbad]; exact⟨[],zb8 _ _,trivial⟩⟩
 ·have hra0:(aF a).2=0:=zg7 fun h=>by rw[hbadA h] at hbad; cases hbad
  have hrb0:(aF b).2=0:=zg7 fun h=>by rw[hbadB hra0 h] at hbad; cases hbad
  have hsz:((ae a).length:Int) * (ae b).length≤4000:=by rw[hbadC hra0 hrb0] at hbad; simp at hbad; omega
  obtain ⟨hal,hastr,hat,haf⟩:=de hra0;obtain ⟨hbl,hbstr,hbt,hbf⟩:=de hrb0;rw[← hat] at hastr haf;rw[← hbt] at hbstr hbf;have hats:=dS a;have hbts:=dS b;have hai:((ae a).map Cl.id).Pairwise (· < ·):=zj7.2 hastr;have hbi:((ae b).map Cl.id).Pairwise (· < ·):=zj7.2 hbstr;have hall4:ae a=aa a→ae b=aa b→cU a b=(ae a).flatMap fun x=>(ae b).map (cZ (ae a) (ae b) x):=fun h h2=>by unfold cU; rw[← h,← h2]
  have hprod:=hall4 hat hbt;have hCa:am g4 (.slice pa ra.length ca) (ae a):=⟨ra,hra,halla⟩;have hCb:am g4 (.slice pb rb.length cb) (ae b):=⟨rb,hrb,hallb⟩;refine kP (tN (sW I (lU (eN aA I) (aT I (rZ (bW (aL zk9) fun b10=>?_))))));refine tZ (sQ (rZ (aT I (bK (zb4 63 3 ?_)))));refine oP (ι:=PH×Value×List Rc×Nat) (fun i=>[(2,pp b2 0),(3,pp b3 0),(4,pp b4 0),(7,.slice pa ra.length ca),(8,.slice pb rb.length cb),(9,vi rb.length),(10,pp b10 0),(11,vi i.2.2.2)]) (fun i=>i.1) (fun i=>rowA encCell 63 i.2.1 i.2.2.1::pt b10 (.cells #[i.2.1] 30 (0,0))::pt b4 (.cells #[.slice none 0 0] 30 (0,0))::pt b3 (.cells #[u] 30 (0,0))::pt b2 (.cells #[v] 30 (0,0))::s)
   (fun i=>Le g4 i.1∧i.2.2.2≤ra.length∧az (aC i.1) (((ae a).take i.2.2.2).flatMap fun x=>(ae b).map (cZ (ae a) (ae b) x)) i.2.2.1) (fun i=>ra.length - i.2.2.2)
   (g4,.slice none 0 0,[],0) sB rfl rfl ⟨zb7 g4,zf4 _,trivial⟩ ?_
  rintro ⟨g5,ov,rcs,i⟩ ⟨hle5,hi,hrcs⟩;dsimp only at hle5 hi hrcs ⊢;refine sQ (sW I (lM I (lU (eN aA I) (yL I (tZ ?_)))));refine iP I (fun hlt=>?_) (fun hlt=>?_)
  ·have hil:i<(ae a).length:=oM;have hir:i<ra.length:=oM;have hb1:=hra.based oM;have hxr:=halla.get (gE hil) (gE hir);have hgx0:ra[((i:Nat):Int).toNat]?=some ra[i]:=gE hir;have hxm:=gM hil;have hxi:lbI ((ae a).map Cl.id) (ae a)[i].id=i:=by
    have:=uF (l:=(ae a).map Cl.id) (k:=i) (by simpa using hil) hai;simpa using this
   have hsucc:=lg hil fun x=>(ae b).map (cZ (ae a) (ae b) x);generalize hxe:(ae a)[i]=x at *;obtain ⟨xp,xcap,hrx,hxs⟩:=dY hxr;rw[hrx] at hgx0;have hgx:=hgx0;have hxf:=haf x hxm;have hxd:=uK hxf;have hxo:=iD hxf;have hxfd:=k0 hxf;refine kP (tN (sQ (bK (rZ (aT I (bK ?_))))));refine oP (ι:=PH×Value×List Rc×Nat) (fun k=>[(2,pp b2 0),(3,pp b3 0),(4,pp b4 0),(7,.slice pa ra.length ca),(8,.slice pb rb.length cb),(9,vi rb.length),(10,pp b10 0),(11,vi i),(12,vi k.2.2.2)]) (fun k=>k.1) (fun k=>rowA encCell 63 k.2.1 k.2.2.1::pt b10 (.cells #[k.2.1] 30 (0,0))::pt b4 (.cells #[.slice none 0 0] 30 (0,0))::pt b3 (.cells #[u] 30 (0,0))::pt b2 (.cells #[v] 30 (0,0))::s)
    (fun k=>Le g5 k.1∧k.2.2.2≤rb.length∧az (aC k.1) ((((ae a).take i).flatMap fun x=>(ae b).map (cZ (ae a) (ae b) x))++((ae b).take k.2.2.2).map (cZ (ae a) (ae b) x)) k.2.2.1) (fun k=>rb.length - k.2.2.2)
    (g5,ov,rcs,0) sB rfl rfl ⟨zb7 g5,zf4 _,by simpa using hrcs⟩ ?_
   rintro ⟨g6,ov2,rcs2,k⟩ ⟨hle6,hk,hrcs2⟩;dsimp only at hle6 hk hrcs2 ⊢;refine sQ (sW I (lM I (yL I (tZ ?_))));refine iP I (fun hlt2=>?_) (fun hlt2=>?_)
   ·have hkl:k<(ae b).length:=oM;have hkr:k<rb.length:=oM;have hb2:=hrb.based oM;have hyr:=hallb.get (gE hkl) (gE hkr);have hgy0:rb[((k:Nat):Int).toNat]?=some rb[k]:=gE hkr;have hym:=gM hkl;have hyi:lbI ((ae b).map Cl.id) (ae b)[k].id=k:=by
     have:=uF (l:=(ae b).map Cl.id) (k:=k) (by simpa using hkl) hbi;simpa using this
    have htk:((ae b).take (k+1)).map (cZ (ae a) (ae b) x)=((ae b).take k).map (cZ (ae a) (ae b) x)++[cZ (ae a) (ae b) x (ae b)[k]]:=by rw[tS hkl,zg3]; rfl
    generalize hye:(ae b)[k]=y at *;obtain ⟨yp,ycap,hry,hys⟩:=dY hyr;rw[hry] at hgy0;have hgy:=hgy0;have hyf:=hbf y hym;have hyd:=uK hyf;have hyo:=iD hyf;have hyfd:=k0 hyf;have hlenr:=hrcs2.length;have hbnd:(i:Int) * rb.length≤4000:=by
     have h1:(i:Int) * rb.length≤(ra.length:Int) * rb.length:=Int.mul_le_mul_of_nonneg_right oM oM;rw[eal,ebl] at hsz;omega
    have hbnd0:0≤(i:Int) * rb.length:=Int.mul_nonneg oM oM;have hrcl:rcs2.length≤4000:=by
     have h1:rcs2.length=i * rb.length+k:=by
      rw[← hlenr,ze3,ze4,ze2,gY,ze2,← ebl];rw[Nat.min_eq_left oM,Nat.min_eq_left oM]
     have h2:i * rb.length+k≤ra.length * rb.length:=by
      have h3:(i+1) * rb.length≤ra.length * rb.length:=Nat.mul_le_mul_right _ oM;rw[Nat.succ_mul] at h3;omega
     have h4:((ra.length * rb.length:Nat):Int)≤4000:=by rw[eal,ebl] at hsz; rw[Int.natCast_mul]; exact hsz
     omega
    have hid:a6 (ae a) (ae b) x.id y.id=(i:Int) * rb.length+k+1:=by unfold a6; rw[hxi,hyi,ebl]
    have hra6:=hra.mono (hle5.trans hle6);have hrb6:=hrb.mono (hle5.trans hle6);have hxs6:=hxs.mono (hle5.trans hle6);have hys6:=hys.mono (hle5.trans hle6);refine kP (tN (sQ (bK (sQ ?_))));refine dW [] [(0,2),(1,2),(2,2),(3,2),(4,2),(5,2),(6,2),(7,2),(8,2),(9,2),(10,1),(11,2),(12,2),(13,2),(14,2),(15,1),(16,2),(17,2),(18,0),(19,0)] ze1 kR ?_;refine yM I (yM I (pU I (SU.mul I I oM) (yM I (pU I (aD I I oM) (pU I (aD I I oM) (yM I (yM I (pU I (iA aA au I I hb1 oM sL) (pU I (fC ao I zT3 I hb1) (pK I (aZ (e:=encCell) (o:=1) (u:=vi x.dim) iT3 I hra6.rd hgx I) (yM I (yM I (pU I (iA aA au I I hb2 oM sL) (pU I (fC ao I zT3 I hb2) (pK I (aZ (e:=encCell) (o:=1) (u:=vi y.dim) iT3 I hrb6.rd hgy I) (pU I (aD I I oM) (pU I (za1 I (buildC63 _ _)) (SP.o I (aL zk8) dC (.inr iR) ?_))))))))))))))))));rintro _ _ _ ⟨b13,rfl,rfl,rfl⟩;refine SP.on I (sK 0 au I I I I I sB) (.inr iR) ?_;rintro _ _ _ ⟨rfl,rfl⟩;refine pN (tN (sQ (rZ (aT I (bK ?_)))));refine SC.to (fun w hw=>?_) (g':=g6) (s':=pt b13 (.cells #[vi (a6 (ae a) (ae b) x.id y.id),vi (x.dim+y.dim),.slice none 0 0] 63 (0,0))::rowA encCell 63 ov2 rcs2::pt b10 (.cells #[ov2] 30 (0,0))::pt b4 (.cells #[.slice none 0 0] 30 (0,0))::pt b3 (.cells #[u] 30 (0,0))::pt b2 (.cells #[v] 30 (0,0))::s) ?_
    ·rw[hid]; exact hw
    refine zb4 87 2 ?_;refine oP (ι:=Value×Nat) (fun j=>[(2,pp b2 0),(3,pp b3 0),(4,pp b4 0),(7,.slice pa ra.length ca),(8,.slice pb rb.length cb),(9,vi rb.length),(10,pp b10 0),(11,vi i),(12,vi k),(13,pp b13 0),(14,vi j.2)]) (fun _=>g6)
     (fun j=>rowA encSide 87 j.1 ((x.sides.take j.2).map fun q=>(⟨a6 (ae a) (ae b) q.cell y.id,q.sign⟩:aj))::pt b13 (.cells #[vi (a6 (ae a) (ae b) x.id y.id),vi (x.dim+y.dim),j.1] 63 (0,0))::rowA encCell 63 ov2 rcs2::pt b10 (.cells #[ov2] 30 (0,0))::pt b4 (.cells #[.slice none 0 0] 30 (0,0))::pt b3 (.cells #[u] 30 (0,0))::pt b2 (.cells #[v] 30 (0,0))::s)
     (fun j=>j.2≤x.sides.length) (fun j=>x.sides.length - j.2) (.slice none 0 0,0) sB rfl rfl (zf4 _) ?_
    rintro ⟨sv,j⟩ hj;dsimp only at hj ⊢;refine sQ (sW I (lM I (lM I (lU (iA aA au I I hb1 oM sL) (lU (fC ao I bI I hb1) (lK (aZ (e:=encCell) (o:=2) (u:=.slice xp x.sides.length xcap) cQ I hra6.rd hgx I) (lU (eN cA I) (yL I (tZ ?_)))))))));refine iP I (fun hlt3=>?_) (fun hlt3=>?_)
    ·have hjl:j<x.sides.length:=oM;have hb3:=hxs6.based oM;have hjx:x.sides[((j:Nat):Int).toNat]?=some x.sides[j]:=gE hjl;have htj:(x.sides.take (j+1)).map (fun q=>(⟨a6 (ae a) (ae b) q.cell y.id,q.sign⟩:aj))=(x.sides.take j).map (fun q=>(⟨a6 (ae a) (ae b) q.cell y.id,q.sign⟩:aj))++[⟨a6 (ae a) (ae b) x.sides[j].cell y.id,x.sides[j].sign⟩]:=by rw[tS hjl,zg3]; rfl
     have hqf:=hxfd _ (gM hjl);generalize x.sides[j]=z at *;have hatz:=uY hats hqf;have hlbz:=A5 ((ae a).map Cl.id) z.cell;rw[ze4] at hlbz;have hidz:a6 (ae a) (ae b) z.cell y.id=((lbI ((ae a).map Cl.id) z.cell:Nat):Int) * rb.length+k+1:=by unfold a6; rw[hyi,ebl]
     have hbz:((lbI ((ae a).map Cl.id) z.cell:Nat):Int) * rb.length≤4000:=by
      have h1:((lbI ((ae a).map Cl.id) z.cell:Nat):Int) * rb.length≤(ra.length:Int) * rb.length:=Int.mul_le_mul_of_nonneg_right oM oM;rw[eal,ebl] at hsz;omega
     have hbz0:0≤((lbI ((ae a).map Cl.id) z.cell:Nat):Int) * rb.length:=Int.mul_nonneg oM oM;refine kP (tN (sQ (bK (sW I (lM I (lU (iA aA au I I hb1 oM sL) (lU (fC ao I bI I hb1) (lK (aZ (e:=encCell) (o:=2) (u:=.slice xp x.sides.length xcap) cQ I hra6.rd hgx I) (lM I (lU (iA cA cj I I hb3 oM sL) (lK (eA nE cj I hxs6.rd hjx) (bW (aL zk5) fun b15=>?_))))))))))));refine oZ (sK 0 cj I I I I I sB) ?_;refine tZ ?_;refine SC.to (fun w hw=>hw) (g':=g6) (s':=pt b15 (.cells #[vi z.cell,vi z.sign] 87 (0,0))::rowA encSide 87 sv ((x.sides.take j).map fun q=>(⟨a6 (ae a) (ae b) q.cell y.id,q.sign⟩:aj))::pt b13 (.cells #[vi (a6 (ae a) (ae b) x.id y.id),vi (x.dim+y.dim),sv] 63 (0,0))::rowA encCell 63 ov2 rcs2::pt b10 (.cells #[ov2] 30 (0,0))::pt b4 (.cells #[.slice none 0 0] 30 (0,0))::pt b3 (.cells #[u] 30 (0,0))::pt b2 (.cells #[v] 30 (0,0))::s) ?_;refine dW [15,16,17] [(0,2),(1,1),(2,2),(3,2),(4,1),(6,2),(8,2),(11,2),(12,1),(5,0),(7,2),(9,2),(10,2),(13,2),(14,0),(15,0),(16,0),(17,0)] ze1 kR ?_;refine pU I (fA ao I bI I) (pK I (qL (v:=sv) cQ I (cO 2 I I)) (yM I (pU I (fA dn I zT3 I) (pK I (qL (v:=vi z.cell) iT3 I (cO 0 I I)) (yM I (yM I (pU I (fA dn I zT3 I) (pK I (qL (v:=vi z.sign) iT3 I (cO 0 I I)) (SP.o I (cL call62 I (eR E g6 _ _ (ae a) z.cell (hCa.mono (hle5.trans hle6)) oM hats)) dC (.inr iR) ?_)))))))));rintro _ _ _ ⟨rfl,rfl,rfl⟩;rw[hatz];refine pU I (SU.mul I I oM) (pU I (aD I I oM) (pU I (SU.eq (v':=vi (a6 (ae a) (ae b) z.cell y.id)) (aD I I oM) (zd9 vi hidz.symm)) (pU I (za1 I (buildS87 _ _)) (SP.o I (bS sty61 I I I (ab sB) dC) dC (.inr iR) ?_))));rintro _ _ _ ⟨b105,rfl,rfl,rfl⟩;refine SP.o I (aP (e:=encSide) 1 ⟨a6 (ae a) (ae b) z.cell y.id,z.sign⟩ sty61 I I I I I (by simp; omega) (by simp; omega)) dC (.inl dC) ?_;rintro sv' _ _ ⟨rfl,rfl⟩;rw[← htj];refine zc8 fun ⟨w0,hw0⟩=>?_;obtain ⟨q6,d6,rfl⟩:=ag (i:=1) hw0 rfl;clear hw0 w0;refine oU rfl (fA ao rfl bI rfl) dC (.inl dC) (SP.on rfl (SO.store1 2 bI rfl rfl rfl rfl (bE rfl) (by rfl)) (.inl dC) ?_);rintro _ _ _ ⟨rfl,rfl⟩;refine pN (bN (tN (rG (lM I (yD I (lA I (nL (dR (s':=rowA encSide 87 (.slice q6 ((x.sides.take (j+1)).map fun q=>(⟨a6 (ae a) (ae b) q.cell y.id,q.sign⟩:aj)).length d6) ((x.sides.take (j+1)).map fun q=>(⟨a6 (ae a) (ae b) q.cell y.id,q.sign⟩:aj))::pt b13 (.cells #[vi (a6 (ae a) (ae b) x.id y.id),vi (x.dim+y.dim),.slice q6 ((x.sides.take (j+1)).map fun q=>(⟨a6 (ae a) (ae b) q.cell y.id,q.sign⟩:aj)).length d6] 63 (0,0))::rowA encCell 63 ov2 rcs2::pt b10 (.cells #[ov2] 30 (0,0))::pt b4 (.cells #[.slice none 0 0] 30 (0,0))::pt b3 (.cells #[u] 30 (0,0))::pt b2 (.cells #[v] 30 (0,0))::s) (.cons _ (.refl _)) ?_))))))));exact gA (_,j+1) sB I I lN lN
    ·have hjj:x.sides.take j=x.sides:=tL oM;rw[hjj];generalize hfl1:x.sides.map (fun q=>(⟨a6 (ae a) (ae b) q.cell y.id,q.sign⟩:aj))=fl1 at *;have hfl1l:fl1.length=x.sides.length:=by rw[← hfl1,ze4]
     refine xI (tX (tX (bX (tN (sQ (rZ (aT I (bK ?_))))))));refine oP (ι:=Value×Nat) (fun m=>[(2,pp b2 0),(3,pp b3 0),(4,pp b4 0),(7,.slice pa ra.length ca),(8,.slice pb rb.length cb),(9,vi rb.length),(10,pp b10 0),(11,vi i),(12,vi k),(13,pp b13 0),(16,vi m.2)]) (fun _=>g6)
      (fun m=>rowA encSide 87 m.1 (fl1++(y.sides.take m.2).map fun q=>(⟨a6 (ae a) (ae b) x.id q.cell,cB x.dim * q.sign⟩:aj))::pt b13 (.cells #[vi (a6 (ae a) (ae b) x.id y.id),vi (x.dim+y.dim),m.1] 63 (0,0))::rowA encCell 63 ov2 rcs2::pt b10 (.cells #[ov2] 30 (0,0))::pt b4 (.cells #[.slice none 0 0] 30 (0,0))::pt b3 (.cells #[u] 30 (0,0))::pt b2 (.cells #[v] 30 (0,0))::s)
      (fun m=>m.2≤y.sides.length) (fun m=>y.sides.length - m.2) (sv,0) sB rfl (by simp) (zf4 _) ?_
     rintro ⟨sv2,m⟩ hm;dsimp only at hm ⊢;refine sQ (sW I (lM I (lM I (lU (iA aA au I I hb2 oM sL) (lU (fC ao I bI I hb2) (lK (aZ (e:=encCell) (o:=2) (u:=.slice yp y.sides.length ycap) cQ I hrb6.rd hgy I) (lU (eN cA I) (yL I (tZ ?_)))))))));refine iP I (fun hlt4=>?_) (fun hlt4=>?_)
     ·have hml:m<y.sides.length:=oM;have hb3:=hys6.based oM;have hmx:y.sides[((m:Nat):Int).toNat]?=some y.sides[m]:=gE hml;have htm:fl1++(y.sides.take (m+1)).map (fun q=>(⟨a6 (ae a) (ae b) x.id q.cell,cB x.dim * q.sign⟩:aj))=fl1++(y.sides.take m).map (fun q=>(⟨a6 (ae a) (ae b) x.id q.cell,cB x.dim * q.sign⟩:aj))++[⟨a6 (ae a) (ae b) x.id y.sides[m].cell,cB x.dim * y.sides[m].sign⟩]:=by rw[tS hml,zg3]; simp
      have hqf:=hyfd _ (gM hml);have hqs:=hyo.2 _ (gM hml);generalize y.sides[m]=z at *;have hatz:=uY hbts hqf;have hlbz:=A5 ((ae b).map Cl.id) z.cell;rw[ze4] at hlbz;have hidz:a6 (ae a) (ae b) x.id z.cell=(i:Int) * rb.length+((lbI ((ae b).map Cl.id) z.cell:Nat):Int)+1:=by unfold a6; rw[hxi,ebl]
      have hsgn:z.sign * cB x.dim=cB x.dim * z.sign:=Int.mul_comm _ _;have hsgc:=sY x.dim;have htmod:x.dim.tmod 2=x.dim % 2:=Int.tmod_eq_emod_of_nonneg hxd.1;have hmulb : -1≤z.sign * cB x.dim∧z.sign * cB x.dim≤1:=by rcases hqs with h | h <;> rcases hsgc with h2 | h2 <;> rw[h,h2] <;> decide
      refine kP (tN (sQ (bK (sW I (lM I (lU (iA aA au I I hb2 oM sL) (lU (fC ao I bI I hb2) (lK (aZ (e:=encCell) (o:=2) (u:=.slice yp y.sides.length ycap) cQ I hrb6.rd hgy I) (lM I (lU (iA cA cj I I hb3 oM sL) (lK (eA nE cj I hys6.rd hmx) (bW (aL zk5) fun b17=>?_))))))))))));refine oZ (sK 0 cj I I I I I sB) ?_;refine tZ ?_;refine SC.to (fun w hw=>hw) (g':=g6) (s':=pt b17 (.cells #[vi z.cell,vi z.sign] 87 (0,0))::rowA encSide 87 sv2 (fl1++(y.sides.take m).map fun q=>(⟨a6 (ae a) (ae b) x.id q.cell,cB x.dim * q.sign⟩:aj))::pt b13 (.cells #[vi (a6 (ae a) (ae b) x.id y.id),vi (x.dim+y.dim),sv2] 63 (0,0))::rowA encCell 63 ov2 rcs2::pt b10 (.cells #[ov2] 30 (0,0))::pt b4 (.cells #[.slice none 0 0] 30 (0,0))::pt b3 (.cells #[u] 30 (0,0))::pt b2 (.cells #[v] 30 (0,0))::s) ?_;refine dW [24,25,26] [(0,2),(1,1),(2,2),(3,2),(4,2),(5,2),(6,2),(7,1),(11,2),(12,1),(13,2),(14,2),(15,2),(16,2),(17,1),(18,2),(19,2),(20,2),(21,2),(8,0),(9,2),(10,2),(22,2),(23,0),(24,0),(25,0),(26,0)] ze1 kR ?_;refine pU I (fA ao I bI I) (pK I (qL (v:=sv2) cQ I (cO 2 I I)) (yM I (yM I (pU I (SU.mul I I oM) (yM I (pU I (fA dn I zT3 I) (pK I (qL (v:=vi z.cell) iT3 I (cO 0 I I)) (pU I (fA dn I zT3 I) (pK I (qL (v:=vi z.sign) iT3 I (cO 0 I I)) (yM I (yM I (pU I (iA aA au I I hb1 oM sL) (pU I (fC ao I zT3 I hb1) (pK I (aZ (e:=encCell) (o:=1) (u:=vi x.dim) iT3 I hra6.rd hgx I) (pU I (SU.eq (v':=vi (x.dim % 2)) (zd5 I I dC) (zd9 vi htmod)) (pU I (SU.mul I I oM) (pU I (SU.eq (v':=vi (cB x.dim)) (sU I I oM) I) (pU I (SU.eq (v':=vi (cB x.dim * z.sign)) (SU.mul I I oM) (zd9 vi hsgn)) (SP.o I (cL call62 I (eR E g6 _ _ (ae b) z.cell (hCb.mono (hle5.trans hle6)) oM hbts)) dC (.inr iR) ?_)))))))))))))))))));rintro _ _ _ ⟨rfl,rfl,rfl⟩;rw[hatz];refine pU I (aD I I oM) (pU I (SU.eq (v':=vi (a6 (ae a) (ae b) x.id z.cell)) (aD I I oM) (zd9 vi hidz.symm)) (pU I (za1 I (buildS87 _ _)) (SP.o I (bS sty61 I I I (ab sB) dC) dC (.inr iR) ?_)));rintro _ _ _ ⟨b149,rfl,rfl,rfl⟩;refine SP.o I (aP (e:=encSide) 1 ⟨a6 (ae a) (ae b) x.id z.cell,cB x.dim * z.sign⟩ sty61 I I I I I (by simp; omega) (by simp; omega)) dC (.inl dC) ?_;rintro sv3 _ _ ⟨rfl,rfl⟩;rw[← htm];refine zc8 fun ⟨w0,hw0⟩=>?_;obtain ⟨q7,d7,rfl⟩:=ag (i:=1) hw0 rfl;clear hw0 w0;refine oU rfl (fA ao rfl bI rfl) dC (.inl dC) (SP.on rfl (SO.store1 2 bI rfl rfl rfl rfl (bE rfl) (by rfl)) (.inl dC) ?_);rintro _ _ _ ⟨rfl,rfl⟩;refine pN (bN (tN (rG (lM I (yD I (lA I (nL (dR (s':=rowA encSide 87 (.slice q7 (fl1++(y.sides.take (m+1)).map fun q=>(⟨a6 (ae a) (ae b) x.id q.cell,cB x.dim * q.sign⟩:aj)).length d7) (fl1++(y.sides.take (m+1)).map fun q=>(⟨a6 (ae a) (ae b) x.id q.cell,cB x.dim * q.sign⟩:aj))::pt b13 (.cells #[vi (a6 (ae a) (ae b) x.id y.id),vi (x.dim+y.dim),.slice q7 (fl1++(y.sides.take (m+1)).map fun q=>(⟨a6 (ae a) (ae b) x.id q.cell,cB x.dim * q.sign⟩:aj)).length d7] 63 (0,0))::rowA encCell 63 ov2 rcs2::pt b10 (.cells #[ov2] 30 (0,0))::pt b4 (.cells #[.slice none 0 0] 30 (0,0))::pt b3 (.cells #[u] 30 (0,0))::pt b2 (.cells #[v] 30 (0,0))::s) (.cons _ (.refl _)) ?_))))))));exact gA (_,m+1) sB I I lN lN
     ·have hmm:y.sides.take m=y.sides:=tL oM;rw[hmm];have hpc:cZ (ae a) (ae b) x y=⟨a6 (ae a) (ae b) x.id y.id,x.dim+y.dim,fl1++y.sides.map fun q=>(⟨a6 (ae a) (ae b) x.id q.cell,cB x.dim * q.sign⟩:aj)⟩:=by unfold cZ; rw[hfl1]
      generalize hfl2:(fl1++y.sides.map fun q=>(⟨a6 (ae a) (ae b) x.id q.cell,cB x.dim * q.sign⟩:aj))=fl2 at *;refine xI (tX (tX (bX (tN (rG (fR fun g7 hle7 hs7=>?_))))));have hsd:SlA encSide g7 sv2 fl2:=hs7;obtain ⟨q8,d8,rfl⟩:=za2 hsd;obtain ⟨nc,hnc⟩:∃ nc:Rc,nc=⟨a6 (ae a) (ae b) x.id y.id,x.dim+y.dim,⟨q8,fl2.length,d8⟩⟩:=⟨_,rfl⟩;refine lU (fA ed I c8 I) (lK (qL eY I (cO 2 I I)) (lK (qV 0 eX au I I I) (lW (bS sty28 I I I (ab sB) dC) ?_)));rintro _ _ _ ⟨b155,rfl,rfl,rfl⟩;refine lW (aP (e:=encCell) 1 nc sty28 I I I I (by rw[hnc]; rfl) oM oM) ?_;rintro v156 _ _ ⟨rfl,rfl⟩;refine zc9 fun ⟨w0,hw0⟩=>?_;obtain ⟨q9,d9,rfl⟩:=ag (i:=1) hw0 rfl;clear hw0 w0;refine lU (fA ed I c8 I) (oZ (sK 2 c8 I I I I I sB) ?_);refine nL (bN (tN (rG (lM I (yD I (lA I (nL (dR (s':=rowA encCell 63 (.slice q9 (rcs2++[nc]).length d9) (rcs2++[nc])::pt b10 (.cells #[(.slice q9 (rcs2++[nc]).length d9)] 30 (0,0))::pt b4 (.cells #[.slice none 0 0] 30 (0,0))::pt b3 (.cells #[u] 30 (0,0))::pt b2 (.cells #[v] 30 (0,0))::s) (.cons _ (.refl _)) ?_))))))));refine gA (g7,_,rcs2++[nc],k+1) sB I I ⟨hle6.trans hle7,lN,?_⟩ lN;dsimp only;rw[htk,← zg6];exact (hrcs2.mono fun _ _=>aC.mono hle7).append ⟨(by rw[hpc,hnc]; exact⟨I,I,hsd⟩),trivial⟩
   ·have hkk:(ae b).take k=ae b:=tL oM;rw[hkk] at hrcs2;refine xI (tX (tX (bX (bN (tN (rG (lM I (yD I (lA I (nL ?_))))))))));exact gA (g6,ov2,rcs2,i+1) sB I I ⟨hle5.trans hle6,lN,by dsimp only; rw[hsucc]; exact hrcs2⟩ lN
  ·have hii:(ae a).take i=ae a:=tL oM;rw[hii,← hprod] at hrcs;have hpl:(cU a b).length≤4000:=by
    rw[hprod,gY];have h4:(((ae a).length * (ae b).length:Nat):Int)≤4000:=by rw[Int.natCast_mul]; exact hsz
    omega
   have hfit:cR (cU a b):=by
    refine⟨oM,fun c hc=>?_⟩;rw[hprod] at hc;obtain ⟨x,hx,hc⟩:=List.mem_flatMap.1 hc;obtain ⟨y,hy,rfl⟩:=ze9.1 hc;have h1:=(iD (haf x hx)).1;have h2:=(iD (hbf y hy)).1;simp[cZ];omega
   refine xI (tX (tX (bX (tN (sQ (fS fun g6 hle6 hs6=>?_))))));have hov:am g6 ov (cU a b):=⟨rcs,hs6,hrcs.mono fun _ _=>aC.mono hle6⟩;refine rG (lK (qV 0 bh aw I I I) (lW (cL call40 I (fk E g6 _ _ (cU a b) hov hfit)) ?_));rintro _ g7 _ ⟨rfl,rfl,hle7⟩;refine aT I (sQ (sW I (lU (SU.notP I) (tZ ?_))));refine iP I (fun hr=>?_) (fun hr=>?_)
   ·refine rZ (lU (za1 I (buildE30)) (oZ (sK 1 aw I I I I I sB) ?_));refine tZ (rE (tR ?_));exact ST.retCD 1 s (.inl I) results57 I bh aw I I uR ⟨I,hle1.trans (hle2.trans (hle3.trans (hle4.trans (hle5.trans (hle6.trans hle7))))),_,I,by unfold bL; rw[zf7 (by rw[hbad]; simp),zf7 hr]; exact⟨[],zb8 _ _,trivial⟩⟩
   ·refine kP (tN (rZ (lK (qV 0 bh aw I I I) (lW (cL call75 I (ew E g7 _ _ (cU a b) (hov.mono hle7) hfit)) ?_))));rintro _ g8 _ ⟨rfl,hle8,x8,rfl,hx8⟩;obtain ⟨q8,d8,rfl⟩:=hx8.form;refine oZ (sK 1 aw I I I I I sB) ?_;refine tZ (rE ?_);exact ST.retCD 1 s (.inl I) results57 I bh aw I I uR ⟨I,hle1.trans (hle2.trans (hle3.trans (hle4.trans (hle5.trans (hle6.trans (hle7.trans hle8)))))),_,I,by unfold bL; rw[zf7 (by rw[hbad]; simp),zf8 (zg7 hr)]; exact hx8⟩
end Go.Proofs.YtcfkpajlakidbaaGreat
namespace Go.Sy
open Go
section
variable {P:Program}{N:Nat}{E:World}{ops:Array Oper}{Q:Exit→Act→World→Prop}{g0:PH}{s0:Own}{tail:List Nat}{f:Fr}{g g':PH}{s s':Own}{L:Array Bool}{n:Nat}
theorem SX.facts (h:(∃ w,At E g s w)→SX P N E ops Q g0 s0 tail L n f g s):SX P N E ops Q g0 s0 tail L n f g s:=fun a w h1 hcl ha hw hb=>h ⟨w,hw⟩ a w h1 hcl ha hw hb
end
end Go.Sy
namespace Go.Sy
open Go
section
variable {P:Program}{N:Nat}{E:World}{ops:Array Oper}{Q:Exit→Act→World→Prop}{g0 g g':PH}{s0 s s':Own}{tail:List Nat}{L:Array Bool}{n:Nat}{f:Fr}
theorem SX.freeze {b:Nat}{o:Obj}(h:∀ g',Le g g'→g' b=some o→SX P N E ops Q g0 s0 tail L n f g' s):SX P N E ops Q g0 s0 tail L n f g (pt b o::s):=fun a w h1 hcl ha hw hb=>by
 have ho:w.heap[b]?=some o:=by have:=hw.own (pt b o) (by simp); simpa [pt] using this
 obtain ⟨h3,h4⟩:=hw.freeze (b:=b) rfl ho;exact h _ h4 (e8 _ _ _) a w h1 hcl ha h3 hb
end
end Go.Sy
namespace Go.Proofs.YtcfkpajlakidbaaGreat
open _root_.Go.Proofs.Tryz _root_.Go.Proofs.YtcfkpajlakidbaaGreat.Tryz
open Go Go.Sy Go.Pl Go.Proofs
set_option maxRecDepth 100000
def li (ls:List (List Int)):List (List Int):=(ls.take 5).map fun l=>(l.take 4).map fun x=>bG x 7
theorem fl {α β:Type}{l:List α}{i:Nat}(h:i<l.length)(f:α→β):(l.take (i+1)).map f=(l.take i).map f++[f l[i]]:=by
 rw[tS h,zg3]; rfl
theorem kh (E:World)(g:PH)(s:Own)(v:Value)(ls:List (List Int))(hv:ax g v ls) :
  Ctr Tryz.prog E 55 #[v] g s (fun r g' s'=>∃ rs,s'=rowA ak 25 r rs::s∧Le g g'∧az (a7 g') (li ls) rs):=by
 obtain ⟨rs0,hrs0,hall0⟩:=hv;have hlen0:=hall0.length;obtain ⟨p,c,rfl⟩:=za2 hrs0;refine za9 (args:=[.slice p rs0.length c]) func55 I ntmps55 (bE I) ?_;refine rZ (aT I (rZ (aT I (sQ (rZ (aT I (bK (zb4 25 1 ?_))))))));refine oP (ι:=PH×Value×List Sv×Nat) (fun i=>[(0,.slice p rs0.length c),(2,.slice none 0 0),(3,i.2.1),(4,vi i.2.2.2)]) (fun i=>i.1)
  (fun i=>rowA ak 25 i.2.1 i.2.2.1::s)
  (fun i=>Le g i.1∧i.2.2.2≤rs0.length∧i.2.2.2≤5∧az (a7 i.1) ((ls.take i.2.2.2).map fun l=>(l.take 4).map fun x=>bG x 7) i.2.2.1) (fun i=>rs0.length - i.2.2.2)
  (g,.slice none 0 0,[],0) sB rfl rfl ⟨zb7 g,zf4 _,zf4 _,trivial⟩ ?_
 rintro ⟨g1,ov,rs,i⟩ ⟨hle,hi,hi5,hrs⟩;dsimp only at hle hi hi5 hrs ⊢;have hrl:=hrs.length;rw[ze4,ze2] at hrl;have f1:(i:Int)<(rs0.length:Int)→(decide ((i:Int)<(rs0.length:Int))&&decide ((i:Int)<5))=decide ((i:Int)<5):=fun h=>by simp[h]
 have f2:¬ (i:Int)<(rs0.length:Int)→(decide ((i:Int)<(rs0.length:Int))&&decide ((i:Int)<5))=false:=fun h=>by simp only[h,decide_false,Bool.false_and]
 refine sQ ?_;refine SC.cutB 14 ((decide ((i:Int)<(rs0.length:Int))&&decide ((i:Int)<5))) ?_ ?_
 ·refine rG (lM I (lM I (lU (eN aY I) (yL I (lM I ?_)))));refine sP ?_ ?_
  ·intro h11;refine yC I (lY I I I (lS I I) (yP I (nL ?_)));exact za8 (by (rw[f1 h11]; rfl)) mI
  ·intro h11;refine yA I (yA I (yF I (nL ?_)));exact za8 (by (rw[f2 h11]; rfl)) mI
 refine iQ I (fun hc=>?_) (fun hc=>?_)
 ·rw[zi8,zj1,zj1] at hc;have hil:i<ls.length:=oM;have hir:i<rs0.length:=oM;have hb1:=hrs0.based oM;have hR:=(hall0.get (gE hil) (gE hir)).mono hle;have hRl:=hR.len;have hsucc:=fl hil fun l=>(l.take 4).map fun x=>bG x 7;generalize hx:ls[i]=x at *;generalize hr:rs0[i]=r at *;obtain ⟨rp,rn,rc⟩:=r;dsimp only at hRl;subst hRl;have hxs:bC g1 (.slice rp x.length rc) x:=hR;have hgr:rs0[((i:Nat):Int).toNat]?=some ⟨rp,x.length,rc⟩:=by rw[← hr]; exact gE hir
  refine kP (tN (sQ (bK (rZ (aT I (sQ (rZ (aT I (bK (zb4 3 1 ?_))))))))));refine oP (ι:=Value×Nat) (fun k=>[(0,.slice p rs0.length c),(2,.slice none 0 0),(3,ov),(4,vi i),(5,k.1),(6,vi k.2)]) (fun _=>g1)
   (fun k=>rowA encInt 3 k.1 ((x.take k.2).map fun x=>bG x 7)::rowA ak 25 ov rs::s)
   (fun k=>k.2≤x.length∧k.2≤4) (fun k=>x.length - k.2) (.slice none 0 0,0) sB rfl rfl ⟨zf4 _,zf4 _⟩ ?_
  rintro ⟨iv,k⟩ ⟨hk,hk4⟩;dsimp only at hk hk4 ⊢;have f3:(k:Int)<(x.length:Int)→(decide ((k:Int)<(x.length:Int))&&decide ((k:Int)<4))=decide ((k:Int)<4):=fun h=>by simp[h]
  have f4:¬ (k:Int)<(x.length:Int)→(decide ((k:Int)<(x.length:Int))&&decide ((k:Int)<4))=false:=fun h=>by simp only[h,decide_false,Bool.false_and]
  refine sQ ?_;refine SC.cutB 27 ((decide ((k:Int)<(x.length:Int))&&decide ((k:Int)<4))) ?_ ?_
  ·refine rG (lM I (lM I (lM I (lU (iA aY aR I I hb1 oM sL) (lK (eB (u:=.slice rp x.length rc) bM I (hrs0.mono hle).rd hgr I) (lU (eN ah I) (yL I (lM I ?_))))))));refine sP ?_ ?_
   ·intro h24;refine yC I (lY I I I (lS I I) (yP I (nL ?_)));exact za8 (by (rw[f3 h24]; rfl)) mI
   ·intro h24;refine yA I (yA I (yF I (nL ?_)));exact za8 (by (rw[f4 h24]; rfl)) mI
  refine iQ I (fun hc2=>?_) (fun hc2=>?_)
  ·rw[zi8,zj1,zj1] at hc2;have hkl:k<x.length:=oM;have hb2:=za4 hxs oM;have hks:=fl hkl fun x=>bG x 7;have hgk:x[((k:Nat):Int).toNat]?=some x[k]:=gE hkl;generalize x[k]=y at *;refine kP (tN (sQ (bK (rG (lM I (lM I (lM I (lU (iA aY aR I I hb1 oM sL) (lK (eB (u:=.slice rp x.length rc) bM I (hrs0.mono hle).rd hgr I) (lM I (lU (iA ah zT3 I I hb2 oM sL) (lK (eB iT3 I (za5 hxs) hgk I) (lW (cL gD I (aK E g1 _ y 7 dC)) ?_)))))))))))));rintro _ _ _ ⟨rfl,rfl,rfl⟩;refine lW (bS sty25 I I I (ab sB) dC) ?_;rintro _ _ _ ⟨b39,rfl,rfl,rfl⟩;refine lW (aP (e:=encInt) 0 (bG y 7) sty25 I I I I I (by rw[ze4,ze2]; omega) (by rw[ze4,ze2]; omega)) ?_;rintro iv' _ _ ⟨rfl,rfl⟩;refine lA I (nL (bN (tN (rG (lM I (yD I (lA I (nL ?_))))))));refine ST.to (fun w hw=>?_) (g':=g1) (s':=rowA encInt 3 iv' ((x.take (k+1)).map fun x=>bG x 7)::rowA ak 25 ov rs::s) ?_
   ·rw[hks]; exact hw
   exact gA (iv',k+1) sB I I ⟨lN,lN⟩ lN
  ·have hxk:x.take k=x.take 4:=by
    rw[Bool.and_eq_false_iff,decide_eq_false_iff_not,decide_eq_false_iff_not] at hc2;by_cases h4:k=4
    ·rw[h4]
    ·rw[tL oM,tL oM]
   rw[hxk];refine xI (tX (tX (bX (tN (fS fun g2 hle2 hs2=>?_)))));have hiv:bC g2 iv ((x.take 4).map fun x=>bG x 7):=hs2;obtain ⟨q2,d2,rfl⟩:=za2 hiv;obtain ⟨nl,hnl⟩:∃ nl,nl=((x.take 4).map fun x=>bG x 7).length:=⟨_,rfl⟩;refine rG (lM I (lM I (lW (bS sty22 I I I (ab sB) dC) ?_)));rintro _ _ _ ⟨b43,rfl,rfl,rfl⟩;refine lW (aP (e:=ak) 0 ⟨q2,((x.take 4).map fun x=>bG x 7).length,d2⟩ sty22 I I I I I oM oM) ?_;rintro ov' _ _ ⟨rfl,rfl⟩;refine lA I (nL (bN (tN (rG (lM I (yD I (lA I (nL ?_))))))));refine gA (g2,ov',rs++[⟨q2,((x.take 4).map fun x=>bG x 7).length,d2⟩],i+1) sB I I ⟨hle.trans hle2,lN,lN,?_⟩ lN;dsimp only;rw[hsucc];exact (hrs.mono fun _ _=>a7.mono hle2).append ⟨hiv,trivial⟩
 ·have hls:ls.take i=ls.take 5:=by
   rw[Bool.and_eq_false_iff,decide_eq_false_iff_not,decide_eq_false_iff_not] at hc;by_cases h5:i=5
   ·rw[h5]
   ·rw[tL oM,tL oM]
  rw[hls] at hrs;refine xI (tX (tX (bX (tN (sW I (aT I (rE ?_)))))));exact za6 (.inl I) results55 I ⟨rs,I,hle,hrs⟩
def dM (id k:Int):Int:=if k=1 then id else IntKind.i64.wrap ((IntKind.i64.wrap (id * k)).tmod 211+1)
theorem jn (E:World)(g:PH)(s:Own)(a k:Int):Ctr Tryz.prog E 94 #[vi a,vi k] g s
  (fun r g' s'=>r=vi (dM a k)∧g=g'∧s=s'):=by
 refine za9 (args:=[vi a,vi k]) func94 I ntmps94 (bE I) ?_;refine rZ (aT I (sQ (sW I (yE I (tZ ?_)))));refine iP I (fun h1=>?_) (fun h1=>?_)
 ·refine sW I (aT I (rE (tR ?_)));exact za6 (.inl I) results94 I ⟨by simp[dM,h1],I,I⟩
 ·refine kP (tN (sW I (lM I (lU (SU.mulW I I) (lU (zd5 I I dC) (lU (zd7 I I) (aT I (rE ?_))))))));exact za6 (.inl I) results94 I ⟨by simp[dM,h1],I,I⟩
theorem mY (E:World)(g:PH)(s:Own)(a k:Int)(hk:k≠0):Ctr Tryz.prog E 95 #[vi a,vi k] g s
  (fun r g' s'=>r=vb (decide (a.tmod k=1))∧g=g'∧s=s'):=by
 refine za9 (args:=[vi a,vi k]) func95 I ntmps95 (bE I) ?_;refine rZ (aT I (sW I (lM I (lU (zd5 I I oM) (yE I (aT I (rE ?_)))))));exact za6 (.inl I) results95 I ⟨I,I,I⟩
theorem ie:∀ (all ls:List (List Int)),all.length≤4000→(∀ x∈all,x.length≤9)→∀ r,aG all ls=some r→r.length≤4000∧∀ x∈r,x.length≤9
 | all,[],h1,h2,r,h=>by cases h; exact⟨h1,h2⟩
 | all,t::ls,h1,h2,r,h=>by
  unfold aG at h;split at h
  ·exact ie all ls h1 h2 r h
  ·rename_i hb;split at h
   ·cases h
   ·rename_i hl;refine ie _ ls oM (fun x hx=>?_) r h
    rcases jX hx with hx | hx
    ·exact h2 x hx
    ·refine fY ?_ x hx;cases hT:bV t with
     | nil=>simp
     | cons a r =>
      rw[hT] at hb;simp only[iu,Bool.or_eq_true,zj1,not_or] at hb;omega
theorem dz (ls:List (List Int)):cR (bQ ls)∧(bQ ls).length≤4000:=by
 unfold bQ;cases h:aG [] ls with
 | none=>exact⟨⟨by simp,by simp⟩,by simp⟩
 | some all =>
  obtain ⟨h1,h2⟩:=ie [] ls (by simp) (by simp) all h;have h3:(aa (ba all)).length≤4000:=by rw[ay,bD]; exact h1
  exact⟨ci (jz h1 h2),h3⟩
theorem eu (a b:List Cl):cR (bL a b)∧(bL a b).length≤4000:=by
 unfold bL;split
 ·exact⟨⟨by simp,by simp⟩,by simp⟩
 ·rename_i hbad;split
  ·have ha:(aF a).2=0:=zg7 fun h=>hbad (by simp[cf,h]);have hb:(aF b).2=0:=zg7 fun h=>hbad (by simp[cf,h]);have hsz:((ae a).length:Int) * (ae b).length≤4000:=by
    refine zg7 fun h=>hbad ?_;have:((ae a).length:Int) * (ae b).length>4000:=oM;simp[cf,this]
   obtain ⟨_,_,hat,haf⟩:=de ha;obtain ⟨_,_,hbt,hbf⟩:=de hb;rw[← hat] at haf;rw[← hbt] at hbf;have hprod:cU a b=(ae a).flatMap fun x=>(ae b).map (cZ (ae a) (ae b) x):=by unfold cU; rw[← hat,← hbt]
   have hpl:(cU a b).length≤4000:=by
    rw[hprod,gY];have h4:(((ae a).length * (ae b).length:Nat):Int)≤4000:=by rw[Int.natCast_mul]; exact hsz
    omega
   have hfit:cR (cU a b):=by
    refine⟨oM,fun c hc=>?_⟩;rw[hprod] at hc;obtain ⟨x,hx,hc⟩:=List.mem_flatMap.1 hc;obtain ⟨y,hy,rfl⟩:=ze9.1 hc;have h1:=(iD (haf x hx)).1;have h2:=(iD (hbf y hy)).1;simp[cZ];omega
   exact⟨ci hfit,by rw[ay]; exact hpl⟩
  ·exact⟨⟨by simp,by simp⟩,by simp⟩
def nR:List Cl:=bL (bQ [[0,1],[1,2],[0,2]]) (bQ [[0,1],[1,2],[0,2]])
theorem vk (E:World)(g:PH)(s:Own):Ctr Tryz.prog E 59 #[] g s (fun r g' s'=>s=s'∧Le g g'∧∃ u,r = .agg #[u]∧am g' u nR):=by
 have hf:=(dz [[0,1],[1,2],[0,2]]).1;refine za9 (args:=[]) func59 I ntmps59 (bE I) ?_;refine rZ (bW (aL zk9) fun b0=>?_);refine tZ (rZ (lW (bS sty25 I I I (ab sB) dC) ?_));rintro _ _ _ ⟨b2,rfl,rfl,rfl⟩;refine zb3 fun g1 hle1 hb2=>?_;refine lW (bS sty25 I I I (ab sB) dC) ?_;rintro _ _ _ ⟨b3,rfl,rfl,rfl⟩;refine zb3 fun g2 hle2 hb3=>?_;refine lW (bS sty25 I I I (ab sB) dC) ?_;rintro _ _ _ ⟨b4,rfl,rfl,rfl⟩;refine zb3 fun g3 hle3 hb4=>?_;refine lW (bS sty22 I I I (ab sB) dC) ?_;rintro _ _ _ ⟨b5,rfl,rfl,rfl⟩;refine zb3 fun g4 hle4 hb5=>?_;have hlit:ax g4 (.slice (some ⟨b5,0,none⟩) 3 3) [[0,1],[1,2],[0,2]]:=⟨[eC (.slice (some ⟨b2,0,none⟩) 2 2),eC (.slice (some ⟨b3,0,none⟩) 2 2),eC (.slice (some ⟨b4,0,none⟩) 2 2)],SlA.lit hb5 rfl rfl,⟨SlA.lit (hle4 _ _ (hle3 _ _ (hle2 _ _ hb2))) rfl rfl,SlA.lit (hle4 _ _ (hle3 _ _ hb3)) rfl rfl,SlA.lit (hle4 _ _ hb4) rfl rfl,trivial⟩⟩;refine lW (cL call21 I (aI E g4 _ _ _ hlit dC dC)) ?_;rintro _ g5 _ ⟨rfl,hle5,u,rfl,hu⟩;obtain ⟨q,d,rfl⟩:=hu.form;refine bW (aL zk9) fun b1=>?_;refine oZ (sK 0 aw I I I I I sB) ?_;refine tZ (rZ (lK (qV 0 bh aw I I I) (lK (qV 0 bh aw I I I) (lW (cL call57 I (ex E g5 _ _ _ _ _ hu hu hf hf)) ?_))));rintro _ g6 _ ⟨rfl,hle6,x,rfl,hx⟩;obtain ⟨q6,d6,rfl⟩:=hx.form;refine oZ (sK 1 aw I I I I I sB) ?_;refine tZ (rE ?_);exact ST.retCD 1 s (.inl I) results59 I bh aw I I uR ⟨I,hle1.trans (hle2.trans (hle3.trans (hle4.trans (hle5.trans hle6)))),_,I,hx⟩
theorem vC (ls:List (List Int)):(li ls).length≤5∧∀ x∈li ls,x.length≤4:=by
 refine⟨by simp[li]; omega,fun x hx=>?_⟩;obtain ⟨l,_,rfl⟩:=ze9.1 hx;simp;omega
def Ck:List (List Int):=[[0,1,2],[0,1,3],[0,2,3],[1,2,3]]
def Cj:List (List Int):=[[0,1,2],[0,2,3],[0,3,4],[0,4,5],[0,1,5],[1,2,4],[2,3,5],[1,3,4],[2,4,5],[1,3,5]]
def rj (k:Nat):List (List Int):=(List.range k).flatMap fun (i:Nat)=>[[(i:Int),((i:Int)+1).tmod 7,((i:Int)+3).tmod 7],[(i:Int),((i:Int)+2).tmod 7,((i:Int)+3).tmod 7]]
def lh (n:Int):List (List Int):=if bG n 3=0 then Ck else if bG n 3=1 then Cj else rj 7
theorem ob (k:Nat):rj (k+1)=rj k++[[(k:Int),((k:Int)+1).tmod 7,((k:Int)+3).tmod 7],[(k:Int),((k:Int)+2).tmod 7,((k:Int)+3).tmod 7]]:=by
 simp[rj,List.range_succ,List.flatMap_append]
theorem i7 (k:Nat):(rj k).length=2 * k:=by
 induction k with
 | zero=>rfl
 | succ k ih=>rw[ob,ze3,ih]; simp; omega
theorem ln (E:World)(g:PH)(s:Own)(n:Int):Ctr Tryz.prog E 56 #[vi n] g s (fun r g' s'=>s=s'∧Le g g'∧ax g' r (lh n)):=by
 refine za9 (args:=[vi n]) func56 I ntmps56 (bE I) ?_;refine rZ (aT I (sQ (sW I (lW (cL gD I (aK E g _ n 3 dC)) ?_))));rintro _ _ _ ⟨rfl,rfl,rfl⟩;refine tZ (bK (rZ (yE I (aT I ?_))));refine iP I (fun h0=>?_) (fun h0=>?_)
 ·refine rZ (lW (bS sty25 I I I (ab sB) dC) ?_);rintro _ _ _ ⟨b9,rfl,rfl,rfl⟩;refine zb3 fun g1 hle1 hb9=>?_;refine lW (bS sty25 I I I (ab sB) dC) ?_;rintro _ _ _ ⟨b10,rfl,rfl,rfl⟩;refine zb3 fun g2 hle2 hb10=>?_;refine lW (bS sty25 I I I (ab sB) dC) ?_;rintro _ _ _ ⟨b11,rfl,rfl,rfl⟩;refine zb3 fun g3 hle3 hb11=>?_;refine lW (bS sty25 I I I (ab sB) dC) ?_;rintro _ _ _ ⟨b12,rfl,rfl,rfl⟩;refine zb3 fun g4 hle4 hb12=>?_;refine lW (bS sty22 I I I (ab sB) dC) ?_;rintro _ _ _ ⟨b13,rfl,rfl,rfl⟩;refine zb3 fun g5 hle5 hb13=>?_;have hlit:ax g5 (.slice (some ⟨b13,0,none⟩) 4 4) Ck:=⟨[eC (.slice (some ⟨b9,0,none⟩) 3 3),eC (.slice (some ⟨b10,0,none⟩) 3 3),eC (.slice (some ⟨b11,0,none⟩) 3 3),eC (.slice (some ⟨b12,0,none⟩) 3 3)],SlA.lit hb13 rfl rfl,⟨SlA.lit (hle5 _ _ (hle4 _ _ (hle3 _ _ (hle2 _ _ hb9)))) rfl rfl,SlA.lit (hle5 _ _ (hle4 _ _ (hle3 _ _ hb10))) rfl rfl,SlA.lit (hle5 _ _ (hle4 _ _ hb11)) rfl rfl,SlA.lit (hle5 _ _ hb12) rfl rfl,trivial⟩⟩;refine aT I (rE (bR (tR ?_)));exact za6 (.inl I) results56 I ⟨I,(hle1.trans (hle2.trans (hle3.trans (hle4.trans hle5)))),by unfold lh; rw[zf8 h0]; exact hlit⟩
 ·refine rZ (yE I (aT I ?_));refine iP I (fun h1=>?_) (fun h1=>?_)
  ·refine rZ (lW (bS sty25 I I I (ab sB) dC) ?_);rintro _ _ _ ⟨b16,rfl,rfl,rfl⟩;refine zb3 fun g1 hle1 hb16=>?_;refine lW (bS sty25 I I I (ab sB) dC) ?_;rintro _ _ _ ⟨b17,rfl,rfl,rfl⟩;refine zb3 fun g2 hle2 hb17=>?_;refine lW (bS sty25 I I I (ab sB) dC) ?_;rintro _ _ _ ⟨b18,rfl,rfl,rfl⟩;refine zb3 fun g3 hle3 hb18=>?_;refine lW (bS sty25 I I I (ab sB) dC) ?_;rintro _ _ _ ⟨b19,rfl,rfl,rfl⟩;refine zb3 fun g4 hle4 hb19=>?_;refine lW (bS sty25 I I I (ab sB) dC) ?_;rintro _ _ _ ⟨b20,rfl,rfl,rfl⟩;refine zb3 fun g5 hle5 hb20=>?_;refine lW (bS sty25 I I I (ab sB) dC) ?_;rintro _ _ _ ⟨b21,rfl,rfl,rfl⟩;refine zb3 fun g6 hle6 hb21=>?_;refine lW (bS sty25 I I I (ab sB) dC) ?_;rintro _ _ _ ⟨b22,rfl,rfl,rfl⟩;refine zb3 fun g7 hle7 hb22=>?_;refine lW (bS sty25 I I I (ab sB) dC) ?_;rintro _ _ _ ⟨b23,rfl,rfl,rfl⟩;refine zb3 fun g8 hle8 hb23=>?_;refine lW (bS sty25 I I I (ab sB) dC) ?_;rintro _ _ _ ⟨b24,rfl,rfl,rfl⟩;refine zb3 fun g9 hle9 hb24=>?_;refine lW (bS sty25 I I I (ab sB) dC) ?_;rintro _ _ _ ⟨b25,rfl,rfl,rfl⟩;refine zb3 fun g10 hle10 hb25=>?_;refine lW (bS sty22 I I I (ab sB) dC) ?_;rintro _ _ _ ⟨b26,rfl,rfl,rfl⟩;refine zb3 fun g11 hle11 hb26=>?_;have hlit:ax g11 (.slice (some ⟨b26,0,none⟩) 10 10) Cj:=⟨[eC (.slice (some ⟨b16,0,none⟩) 3 3),eC (.slice (some ⟨b17,0,none⟩) 3 3),eC (.slice (some ⟨b18,0,none⟩) 3 3),eC (.slice (some ⟨b19,0,none⟩) 3 3),eC (.slice (some ⟨b20,0,none⟩) 3 3),eC (.slice (some ⟨b21,0,none⟩) 3 3),eC (.slice (some ⟨b22,0,none⟩) 3 3),eC (.slice (some ⟨b23,0,none⟩) 3 3),eC (.slice (some ⟨b24,0,none⟩) 3 3),eC (.slice (some ⟨b25,0,none⟩) 3 3)],SlA.lit hb26 rfl rfl,⟨SlA.lit (hle11 _ _ (hle10 _ _ (hle9 _ _ (hle8 _ _ (hle7 _ _ (hle6 _ _ (hle5 _ _ (hle4 _ _ (hle3 _ _ (hle2 _ _ hb16)))))))))) rfl rfl,SlA.lit (hle11 _ _ (hle10 _ _ (hle9 _ _ (hle8 _ _ (hle7 _ _ (hle6 _ _ (hle5 _ _ (hle4 _ _ (hle3 _ _ hb17))))))))) rfl rfl,SlA.lit (hle11 _ _ (hle10 _ _ (hle9 _ _ (hle8 _ _ (hle7 _ _ (hle6 _ _ (hle5 _ _ (hle4 _ _ hb18)))))))) rfl rfl,SlA.lit (hle11 _ _ (hle10 _ _ (hle9 _ _ (hle8 _ _ (hle7 _ _ (hle6 _ _ (hle5 _ _ hb19))))))) rfl rfl,SlA.lit (hle11 _ _ (hle10 _ _ (hle9 _ _ (hle8 _ _ (hle7 _ _ (hle6 _ _ hb20)))))) rfl rfl,SlA.lit (hle11 _ _ (hle10 _ _ (hle9 _ _ (hle8 _ _ (hle7 _ _ hb21))))) rfl rfl,SlA.lit (hle11 _ _ (hle10 _ _ (hle9 _ _ (hle8 _ _ hb22)))) rfl rfl,SlA.lit (hle11 _ _ (hle10 _ _ (hle9 _ _ hb23))) rfl rfl,SlA.lit (hle11 _ _ (hle10 _ _ hb24)) rfl rfl,SlA.lit (hle11 _ _ hb25) rfl rfl,trivial⟩⟩;refine aT I (rE (bR (tR ?_)));exact za6 (.inl I) results56 I ⟨I,(hle1.trans (hle2.trans (hle3.trans (hle4.trans (hle5.trans (hle6.trans (hle7.trans (hle8.trans (hle9.trans (hle10.trans hle11)))))))))),by unfold lh; rw[zf7 h0,zf8 h1]; exact hlit⟩
  ·refine kP (bN (tN (rZ (aT I (sQ (rZ (aT I (bK (zb4 25 1 ?_)))))))));refine oP (ι:=PH×Value×List Sv×Nat) (fun i=>[(3,i.2.1),(4,vi i.2.2.2)]) (fun i=>i.1)
    (fun i=>rowA ak 25 i.2.1 i.2.2.1::s)
    (fun i=>Le g i.1∧i.2.2.2≤7∧az (a7 i.1) (rj i.2.2.2) i.2.2.1) (fun i=>7 - i.2.2.2)
    (g,.slice none 0 0,[],0) sB rfl rfl ⟨zb7 g,zf4 _,trivial⟩ ?_
   rintro ⟨g1,ov,rs,i⟩ ⟨hle,hi,hrs⟩;dsimp only at hle hi hrs ⊢;have hrl:=hrs.length;rw[i7] at hrl;refine sQ (sW I (yL I (tZ ?_)));refine iP I (fun hlt=>?_) (fun hlt=>?_)
   ·have hi7:i<7:=oM;refine kP (tN (sQ (bK (rG (lM I (lM I (lM I (yD I (lU (zd5 I I dC) (lM I (yD I (lU (zd5 I I dC) (lW (bS sty25 I I I (ab sB) dC) ?_)))))))))))));rintro _ _ _ ⟨b39,rfl,rfl,rfl⟩;refine zb3 fun g2 hle2 hb39=>?_;refine lM I (lM I (yD I (lU (zd5 I I dC) (lM I (yD I (lU (zd5 I I dC) (lW (bS sty25 I I I (ab sB) dC) ?_)))))));rintro _ _ _ ⟨b47,rfl,rfl,rfl⟩;refine zb3 fun g3 hle3 hb47=>?_;refine lW (bS sty22 I I I (ab sB) dC) ?_;rintro _ _ _ ⟨b48,rfl,rfl,rfl⟩;refine zb3 fun g4 hle4 hb48=>?_;have hlit:SlA ak g4 (.slice (some ⟨b48,0,none⟩) 2 2) [⟨some ⟨b39,0,none⟩,3,3⟩,⟨some ⟨b47,0,none⟩,3,3⟩]:=SlA.lit hb48 rfl rfl;refine lW (aQ (e:=ak) 0 sty22 I I I hlit lN lN) ?_;rintro ov' _ _ ⟨rfl,rfl⟩;refine lA I (nL (bN (tN (rG (lM I (yD I (lA I (nL ?_))))))));refine gA (g4,ov',rs++[⟨some ⟨b39,0,none⟩,3,3⟩,⟨some ⟨b47,0,none⟩,3,3⟩],i+1) sB I I ⟨hle.trans (hle2.trans (hle3.trans hle4)),lN,?_⟩ lN;dsimp only;rw[ob];exact (hrs.mono fun _ _=>a7.mono (hle2.trans (hle3.trans hle4))).append ⟨SlA.lit (hle4 _ _ (hle3 _ _ hb39)) I I,SlA.lit (hle4 _ _ hb47) I I,trivial⟩
   ·have hi7:i=7:=oM;subst hi7;refine xI (tX (tX (bX (tN (sQ (fS fun g2 hle2 hs2=>?_))))));have hov:ax g2 ov (rj 7):=⟨rs,hs2,hrs.mono fun _ _=>a7.mono hle2⟩;refine rG (lM I (aT I (rE ?_)));exact za6 (.inl I) results56 I ⟨I,hle.trans hle2,by unfold lh; rw[zf7 h0,zf7 h1]; exact hov⟩
set_option maxHeartbeats 1000000
def kJ (k:Nat):List Cl:=(List.range k).map fun (i:Nat)=>⟨(i:Int)+1,0,[]⟩
def lk (n k:Nat):List Cl:=(List.range k).map fun (i:Nat)=>⟨(n:Int)+i+1,1,[⟨(i:Int)+1,-1⟩,⟨((i:Int)+1).tmod n+1,1⟩]⟩
def fg (n k:Nat):List aj:=(List.range k).map fun (i:Nat)=>⟨(n:Int)+i+1,1⟩
def dI (n:Nat):List Cl:=kJ n++lk n n++[⟨2 * (n:Int)+1,2,fg n n⟩]++(if (n:Int).tmod 2=0 then [⟨2 * (n:Int)+2,2,fg n n⟩] else [])
def ru (n:Nat):List Cl:=aa (dI n)
theorem vM (k:Nat):kJ (k+1)=kJ k++[⟨(k:Int)+1,0,[]⟩]:=by simp[kJ,List.range_succ]
theorem vO (n k:Nat):lk n (k+1)=lk n k++[⟨(n:Int)+k+1,1,[⟨(k:Int)+1,-1⟩,⟨((k:Int)+1).tmod n+1,1⟩]⟩]:=by simp[lk,List.range_succ]
theorem vN (n k:Nat):fg n (k+1)=fg n k++[⟨(n:Int)+k+1,1⟩]:=by simp[fg,List.range_succ]
theorem i9 (n k:Nat):(fg n k).length=k:=by simp[fg]
theorem lx {n:Nat}(h:n≤6):cR (dI n)∧(dI n).length≤14:=by
 have hl:(dI n).length≤14:=by
  unfold dI;split <;> simp[kJ,lk] <;> omega
 refine⟨⟨oM,fun c hc=>?_⟩,hl⟩;unfold dI at hc
 rcases zf1.1 hc with hc | hc
 ·rcases zf1.1 hc with hc | hc
  ·rcases zf1.1 hc with hc | hc
   ·obtain ⟨i,_,rfl⟩:=ze9.1 hc;simp
   ·obtain ⟨i,_,rfl⟩:=ze9.1 hc;simp
  ·simp at hc;subst hc;simp[i9];omega
 ·split at hc
  ·simp at hc;subst hc;simp[i9];omega
  ·simp at hc
theorem Tryz.buildD63 (x:Int)(w:World):(Instr.build 63 #[(0,vi x)]).run Tryz.prog w = .ok (.agg #[vi x,vi 0,.slice none 0 0]) w:=by
 have hz:(Value.agg #[vi 0,vi 0,Value.slice none 0 0]).cells = #[vi 0,vi 0,.slice none 0 0]:=rfl;have h1:∀ z:Int,(vi z).cells = #[vi z]:=fun _=>rfl;simp[Instr.build,Instr.fill,hz,h1]
theorem rL (E:World)(g:PH)(s:Own)(n:Nat)(h2:2≤n)(h6:n≤6) :
  Ctr Tryz.prog E 58 #[vi n] g s (fun r g' s'=>s=s'∧Le g g'∧∃ x,r = .agg #[x]∧am g' x (ru n)):=by
 have hnn:((n:Nat):Int)≠0:=oM;refine za9 (args:=[vi n]) func58 I ntmps58 (bE I) ?_;refine rZ (bW (aL zk9) fun b2=>?_);refine tZ (rZ (bW (aL zk9) fun b3=>?_));refine tZ (sQ (rZ (aT I (bK (zb4 63 3 ?_)))));refine oP (ι:=Value×List Rc×Nat) (fun i=>[(0,vi n),(2,pp b2 0),(3,pp b3 0),(4,vi i.2.2)]) (fun _=>g)
  (fun i=>rowA encCell 63 i.1 i.2.1::pt b3 (.cells #[i.1] 30 (0,0))::pt b2 (.cells #[.slice none 0 0] 30 (0,0))::s)
  (fun i=>i.2.2≤n∧az (aC g) (kJ i.2.2) i.2.1) (fun i=>n - i.2.2)
  (.slice none 0 0,[],0) sB rfl rfl ⟨zf4 _,trivial⟩ ?_
 rintro ⟨ov,rcs,i⟩ ⟨hi,hrcs⟩;dsimp only at hi hrcs ⊢;have hrl:=hrcs.length;simp only[kJ,ze4,zi2] at hrl;refine sQ (sW I (lM I (yL I (tZ ?_))));refine iP I (fun hlt=>?_) (fun hlt=>?_)
 ·refine kP (tN (sQ (bK (rG (lU (fA ed I c8 I) (lK (qL (v:=ov) eY I (cO 1 I I)) (lM I (yD I (lU (za1 I (buildD63 _)) (lW (bS sty28 I I I (ab sB) dC) ?_))))))))));rintro _ _ _ ⟨b19,rfl,rfl,rfl⟩;refine lW (aP (e:=encCell) 0 ⟨(i:Int)+1,0,⟨none,0,0⟩⟩ sty28 I I I I I oM oM) ?_;rintro v20 _ _ ⟨rfl,rfl⟩;refine zc9 fun ⟨w0,hw0⟩=>?_;obtain ⟨q9,d9,rfl⟩:=ag (i:=0) hw0 rfl;clear hw0 w0;refine lU (fA ed I c8 I) (oZ (sK 1 c8 I I I I I sB) ?_);refine nL (bN (tN (rG (lM I (yD I (lA I (nL ?_)))))));refine gA (_,rcs++[⟨(i:Int)+1,0,⟨none,0,0⟩⟩],i+1) sB I I ⟨lN,?_⟩ lN;dsimp only;rw[vM];exact hrcs.append ⟨⟨I,I,zb8 _ _⟩,trivial⟩
 ·have hin:i=n:=oM;subst hin;refine xI (tX (tX (bX (tN (rZ (aT I (sQ (rZ (aT I (bK (zb4 87 2 ?_)))))))))));refine oP (ι:=PH×Value×List Rc×Value×Nat) (fun k=>[(0,vi i),(2,pp b2 0),(3,pp b3 0),(5,k.2.2.2.1),(6,vi k.2.2.2.2)]) (fun k=>k.1)
   (fun k=>rowA encSide 87 k.2.2.2.1 (fg i k.2.2.2.2)::rowA encCell 63 k.2.1 k.2.2.1::pt b3 (.cells #[k.2.1] 30 (0,0))::pt b2 (.cells #[.slice none 0 0] 30 (0,0))::s)
   (fun k=>Le g k.1∧k.2.2.2.2≤i∧az (aC k.1) (kJ i++lk i k.2.2.2.2) k.2.2.1) (fun k=>i - k.2.2.2.2)
   (g,ov,rcs,.slice none 0 0,0) sB rfl rfl ⟨zb7 g,zf4 _,by simpa [lk] using hrcs⟩ ?_
  rintro ⟨g1,ov1,rcs1,sv,k⟩ ⟨hle1,hk,hrcs1⟩;dsimp only at hle1 hk hrcs1 ⊢;have hrl1:=hrcs1.length;simp only[kJ,lk,ze3,ze4,zi2] at hrl1;have hsl:=i9 i k;refine sQ (sW I (lM I (yL I (tZ ?_))));refine iP I (fun hlt2=>?_) (fun hlt2=>?_)
  ·have hkm:0≤((k:Int)+1).tmod i∧((k:Int)+1).tmod i<i:=by
    rw[Int.tmod_eq_emod_of_nonneg oM];exact⟨zk1 _ hnn,zj9 _ oM⟩
   refine kP (tN (sQ (bK (sW I (yD I (lU (za1 I (buildS87 _ _)) (bW (aL zk5) fun b7=>?_)))))));refine oZ (sK 0 cj I I I I I sB) ?_;refine tZ (sW I (yD I (lM I (lU (zd5 I I hnn) (yD I (lU (za1 I (buildS87 _ _)) (bW (aL zk5) fun b8=>?_)))))));refine oZ (sK 0 cj I I I I I sB) ?_;refine tZ (sQ ?_);refine SC.to (fun w hw=>hw) (g':=g1) (s':=pt b8 (.cells #[vi (((k:Int)+1).tmod i+1),vi 1] 87 (0,0))::pt b7 (.cells #[vi ((k:Int)+1),vi (-1)] 87 (0,0))::rowA encSide 87 sv (fg i k)::rowA encCell 63 ov1 rcs1::pt b3 (.cells #[ov1] 30 (0,0))::pt b2 (.cells #[.slice none 0 0] 30 (0,0))::s) ?_;refine rG (lU (fA ed I c8 I) (lK (qL (v:=ov1) eY I (cO 4 I I)) (lM I (lM I (yD I (yD I (lK (qV 1 nE cj I I I) (lK (qV 0 nE cj I I I) (lW (bS sty61 I I I (ab sB) dC) ?_)))))))));rintro _ _ _ ⟨b44,rfl,rfl,rfl⟩;refine zb3 fun g2 hle2 hb44=>?_;have hsd:SlA encSide g2 (.slice (some ⟨b44,0,none⟩) 2 2) [⟨(k:Int)+1,-1⟩,⟨((k:Int)+1).tmod i+1,1⟩]:=SlA.lit hb44 rfl rfl;refine lU (za1 I (buildF63 _ _ _ I)) (lW (bS sty28 I I I (ab sB) dC) ?_);rintro _ _ _ ⟨b46,rfl,rfl,rfl⟩;refine lW (aP (e:=encCell) 3 ⟨(i:Int)+k+1,1,⟨some ⟨b44,0,none⟩,2,2⟩⟩ sty28 I I I I I oM oM) ?_;rintro v47 _ _ ⟨rfl,rfl⟩;refine zc9 fun ⟨w0,hw0⟩=>?_;obtain ⟨q9,d9,rfl⟩:=ag (i:=3) hw0 rfl;clear hw0 w0;refine lU (fA ed I c8 I) (oZ (sK 4 c8 I I I I I sB) ?_);refine tZ (rG (lM I (lM I (lM I (yD I (yD I (lU (za1 I (buildS87 _ _)) (lW (bS sty61 I I I (ab sB) dC) ?_))))))));rintro _ _ _ ⟨b55,rfl,rfl,rfl⟩;refine lW (aP (e:=encSide) 2 ⟨(i:Int)+k+1,1⟩ sty61 I I I I I oM oM) ?_;rintro v56 _ _ ⟨rfl,rfl⟩;refine lA I (nL (bN (tN (rG (lM I (yD I (lA I (nL (dR (s':=rowA encSide 87 v56 (fg i k++[⟨(i:Int)+k+1,1⟩])::rowA encCell 63 (.slice q9 (rcs1++[(⟨(i:Int)+k+1,1,⟨some ⟨b44,0,none⟩,2,2⟩⟩:Rc)]).length d9) (rcs1++[⟨(i:Int)+k+1,1,⟨some ⟨b44,0,none⟩,2,2⟩⟩])::pt b3 (.cells #[.slice q9 (rcs1++[(⟨(i:Int)+k+1,1,⟨some ⟨b44,0,none⟩,2,2⟩⟩:Rc)]).length d9] 30 (0,0))::pt b2 (.cells #[.slice none 0 0] 30 (0,0))::s) (.cons _ (.cons _ (.refl _))) ?_)))))))));rw[← vN];refine gA (g2,_,rcs1++[⟨(i:Int)+k+1,1,⟨some ⟨b44,0,none⟩,2,2⟩⟩],v56,k+1) sB I I ⟨hle1.trans hle2,lN,?_⟩ lN;dsimp only;rw[vO,← zg6];exact (hrcs1.mono fun _ _=>aC.mono hle2).append ⟨⟨I,I,hsd⟩,trivial⟩
  ·have hki:k=i:=oM;subst hki;refine xI (tX (tX (bX (tN (sQ (fS fun g2 hle2 hs2=>?_))))));have hsd:SlA encSide g2 sv (fg k k):=hs2;obtain ⟨qs,ds,rfl⟩:=za2 hsd;have hrcs2:=hrcs1.mono fun _ _=>aC.mono hle2;refine rG (lU (fA ed I c8 I) (lK (qL (v:=ov1) eY I (cO 1 I I)) (lM I (lU (SU.mul I I oM) (yD I (lM I (lU (za1 I (buildF63 _ _ _ I)) (lW (bS sty28 I I I (ab sB) dC) ?_))))))));rintro _ _ _ ⟨b64,rfl,rfl,rfl⟩;refine lW (aP (e:=encCell) 0 ⟨2 * (k:Int)+1,2,⟨qs,(fg k k).length,ds⟩⟩ sty28 I I I I I oM oM) ?_;rintro v65 _ _ ⟨rfl,rfl⟩;refine zc9 fun ⟨w0,hw0⟩=>?_;obtain ⟨q9,d9,rfl⟩:=ag (i:=0) hw0 rfl;clear hw0 w0;refine lU (fA ed I c8 I) (oZ (sK 1 c8 I I I I I sB) ?_);refine tZ (sQ (sW I (lU (zd5 I I dC) (yE I (tZ ?_)))));have hrcs3:az (aC g2) (kJ k++lk k k++[⟨2 * (k:Int)+1,2,fg k k⟩]) (rcs1++[⟨2 * (k:Int)+1,2,⟨qs,(fg k k).length,ds⟩⟩]):=hrcs2.append ⟨⟨rfl,rfl,hsd⟩,trivial⟩;obtain ⟨rc3,hrc3⟩:∃ rc3,rc3=rcs1++[(⟨2 * (k:Int)+1,2,⟨qs,(fg k k).length,ds⟩⟩:Rc)]:=⟨_,rfl⟩;have hrc3l:rc3.length=rcs1.length+1:=by rw[hrc3]; simp
   rw[← hrc3] at hrcs3 ⊢;have hfit:=(lx h6).1;refine iP I (fun hev=>?_) (fun hev=>?_)
   ·have hall:dI k=kJ k++lk k k++[⟨2 * (k:Int)+1,2,fg k k⟩]++[⟨2 * (k:Int)+2,2,fg k k⟩]:=by unfold dI; rw[zf8 hev]
    refine dW [10,11,12] [(0,2),(1,1),(2,2),(3,2),(4,2),(6,2),(5,0),(7,0),(8,2),(9,0),(10,0),(11,0),(12,0)] ze1 kR ?_;refine pU I (fA ed I c8 I) (pK I (qL (v:=.slice q9 rc3.length d9) eY I (cO 1 I I)) (yM I (pU I (SU.mul I I oM) (pU I (aD I I oM) (yM I (SP.o I (bS sty61 I I I (ab trivial) dC) dC (.inr iR) ?_))))));rintro _ _ _ ⟨b75,rfl,rfl,rfl⟩;refine SP.to (fun w hw=>(hw.sublist (List.Sublist.cons _ (.refl _))).emptyRow 87 2 (some ⟨b75,0,none⟩)) ?_;refine SP.o I (aQ (e:=encSide) (l:=[]) 0 sty61 I I I hsd lN lN) dC (.inr iR) ?_;rintro v77 _ _ ⟨rfl,rfl⟩;refine SP.freezeRow fun g77 hle77 hs77=>?_;have hsd2:SlA encSide g77 v77 ([]++fg k k):=hs77;rw[List.nil_append] at hsd2;obtain ⟨q77,d77,rfl⟩:=za2 hsd2;refine pU I (za1 I (buildF63 _ _ _ I)) (SP.o I (bS sty28 I I I (ab sB) dC) dC (.inr iR) ?_);rintro _ _ _ ⟨b79,rfl,rfl,rfl⟩;refine SP.o I (aP (e:=encCell) (l:=rc3) 0 ⟨2 * (k:Int)+2,2,⟨q77,(fg k k).length,d77⟩⟩ sty28 I I I I I oM oM) dC (.inl dC) ?_;rintro v80 _ _ ⟨rfl,rfl⟩;refine zc8 fun ⟨w0,hw0⟩=>?_;obtain ⟨q10,d10,rfl⟩:=ag (i:=0) hw0 rfl;clear hw0 w0;refine oU I (fA ed I c8 I) dC (.inl dC) (SP.on I (sK 1 c8 I I I I I sB) (.inl dC) ?_);rintro _ _ _ ⟨rfl,rfl⟩;refine pN (tN (sQ (fS fun g78 hle78 hs78=>?_)));have hov:am g78 (.slice q10 (rc3++[(⟨2 * (k:Int)+2,2,⟨q77,(fg k k).length,d77⟩⟩:Rc)]).length d10) (dI k):=(by rw[hall]; exact⟨_,hs78,(hrcs3.mono fun _ _=>aC.mono (hle77.trans hle78)).append ⟨⟨I,I,hsd2.mono hle78⟩,trivial⟩⟩);refine rG (lK (qV 0 bh aw I I I) (lW (cL call75 I (ew E g78 _ _ (dI k) hov hfit)) ?_));rintro _ g79 _ ⟨rfl,hle79,x79,rfl,hx79⟩;obtain ⟨q79,d79,rfl⟩:=hx79.form;refine oZ (sK 1 aw I I I I I sB) ?_;refine tZ (rE ?_);exact ST.retCD 1 s (.inl I) results58 I bh aw I I uR ⟨I,hle1.trans (hle2.trans (hle77.trans (hle78.trans hle79))),_,I,hx79⟩
   ·have hall:dI k=kJ k++lk k k++[⟨2 * (k:Int)+1,2,fg k k⟩]:=by unfold dI; rw[zf7 hev,zc3]
    refine kP (tN (sQ (fS fun g78 hle78 hs78=>?_)));have hov:am g78 (.slice q9 rc3.length d9) (dI k):=(by rw[hall]; exact⟨_,hs78,hrcs3.mono fun _ _=>aC.mono hle78⟩);refine rG (lK (qV 0 bh aw I I I) (lW (cL call75 I (ew E g78 _ _ (dI k) hov hfit)) ?_));rintro _ g79 _ ⟨rfl,hle79,x79,rfl,hx79⟩;obtain ⟨q79,d79,rfl⟩:=hx79.form;refine oZ (sK 1 aw I I I I I sB) ?_;refine tZ (rE ?_);exact ST.retCD 1 s (.inl I) results58 I bh aw I I uR ⟨I,hle1.trans (hle2.trans (hle78.trans hle79)),_,I,hx79⟩
end Go.Proofs.YtcfkpajlakidbaaGreat
