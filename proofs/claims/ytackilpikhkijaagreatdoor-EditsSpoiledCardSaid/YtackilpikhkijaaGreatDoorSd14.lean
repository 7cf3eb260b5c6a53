/- 14 -/
import Derived.Test.YtackilpikhkijaaGreatDoorSd13
set_option linter.unusedSimpArgs false
set_option linter.unusedVariables false
namespace Go.Proofs.YtackilpikhkijaaGreatDoor
open _root_.Go.Proofs.Tryz _root_.Go.Proofs.YtackilpikhkijaaGreatDoor.Tryz
open Go Go.Sy Go.Pl Go.Proofs
set_option maxRecDepth 100000
set_option maxHeartbeats 4000000
theorem CK {ps:List Pr}{k:Int}{j:Nat}(hj:j<ps.length)(h:ps[j].2=k)(hn:∀ i (hi:i<j),(ps[i]'oM).2≠k):byF ps k=some ps[j].1:=by
 have hf:ps.find? (fun p=>decide (p.2=k))=some ps[j]:=List.find?_eq_some_iff_getElem.2 ⟨by simpa using h,j,hj,rfl,fun i hi=>by simpa using hn i hi⟩;unfold byF;rw[hf];rfl
theorem CJ {ps:List Pr}{k:Int}(hn:∀ p∈ps,p.2≠k):byF ps k=none:=by
 unfold byF;rw[List.find?_eq_none.2 fun p hp=>by simpa using hn p hp];rfl
theorem gi (E:World)(g:PH)(s:Own)(v pv:Value)(l:List Side)(ps:List Pr)(hv:SlA encSide g v l)(hl:l.length<1099511627776)(hp:SlA dJ g pv ps)(hpl:ps.length<1099511627776) :
  Ctr Tryz.prog E 115 #[v,pv] g s (fun r g' s'=>s=s'∧Le g g'∧SlA encSide g' r (l.map<|dY<|byF ps)):=by
 obtain ⟨p,c,rfl⟩:=za4 hv;obtain ⟨q,d,rfl⟩:=za4 hp;refine zb2 (args:=[.slice p l.length c,.slice q ps.length d]) func115 I ntmps115 (bE I)<|rZ (aT I<|rZ<|lU (za3 I<|buildE53)<|bW (aL zl8) fun b5=>?_);refine oZ (sK 0 au I I I I I sB)<|tZ<|sQ<|rZ<|aT I<|bK<|zb6 55 2<|oP (ι:=Nat×Value) (fun i=>[(0,.slice p l.length c),(1,.slice q ps.length d),(5,pp b5 0),(6,vi i.1)]) (fun _=>g) (fun i=>rowA encSide 55 i.2 ((l.take i.1).map<|dY<|byF ps)::pt b5 (.cells #[vi 0,vi 0,i.2] 53 (0,0))::s)
  (fun i=>i.1≤l.length) (fun i=>l.length - i.1) (0,.slice none 0 0) sB rfl rfl (zf9 _) ?_
 rintro ⟨k,w⟩ hk;dsimp only at hk ⊢;refine sQ<|sW I<|lM I<|lU (eN aM I)<|yL I<|tZ<|iP I (fun hlt=>?_) (fun hlt=>?_)
 ·have hkl:k<l.length:=oM;have hb1:=za6 hv oM;have hgk:l[((k:Nat):Int).toNat]?=some l[k]:=gE hkl;have htk:(l.take<|k+1).map (dY<|byF ps)=(l.take k).map (dY<|byF ps)++[dY (byF ps) l[k]]:=by rw[tS hkl,zg8]; rfl
  have hml:((l.take k).map<|dY<|byF ps).length=k:=by rw[ze9,ze7]; omega
  generalize l[k]=x at *;obtain ⟨xc,xs⟩:=x;refine kP (tN<|sQ<|bK<|sW I<|lM I<|lU (iA aM aH I I hb1 oM sL)<|lK (eA eK aH I (za7 hv) hgk)<|bW (aL zl6) fun b7=>?_);refine oZ (sK 0 aH I I I I I sB)<|tZ<|sQ<|rZ<|aT I<|bK<|oP (ι:=Nat) (fun j=>[(0,.slice p l.length c),(1,.slice q ps.length d),(5,pp b5 0),(6,vi k),(7,pp b7 0),(8,vi j)]) (fun _=>g) (fun _=>pt b7 (.cells #[vi xc,vi xs] 55 (0,0))::rowA encSide 55 w ((l.take k).map<|dY<|byF ps)::pt b5 (.cells #[vi 0,vi 0,w] 53 (0,0))::s)
   (fun j=>j≤ps.length∧∀ i (hi:i<j) (hl:i<ps.length),ps[i].2≠xc) (fun j=>ps.length - j) 0 sB rfl rfl ⟨zf9 _,fun i hi=>absurd hi oM⟩ ?_
  rintro j ⟨hj,hno⟩;try dsimp only at hj hno ⊢
  refine sQ<|sW I<|lM I<|lU (eN je I)<|yL I<|tZ<|iP I (fun hlt2=>?_) (fun hlt2=>?_)
  ·have hjl:j<ps.length:=oM;have hb2:=za6 hp oM;have hgj:ps[((j:Nat):Int).toNat]?=some ps[j]:=gE hjl;have hat:=fun h=>CK (ps:=ps) (k:=xc) hjl h (fun i hi=>hno i hi oM);have hsucc:ps[j].2≠xc→∀ i (hi:i<j+1) (hl:i<ps.length),ps[i].2≠xc:=fun h i hi hl=>by
    by_cases e:i=j
    ·subst e; exact h
    ·exact hno i oM hl
   generalize ps[j]=z at *;obtain ⟨z1,z2⟩:=z;dsimp only at hat hsucc;refine kP<|tN<|sQ<|bK<|sQ<|dW [] [(0,2),(1,1),(2,2),(3,2),(4,2),(5,2),(6,1),(7,2)] ze6 kR<|pU I (fA bZ I zT3 I)<|pK I (qL (v:=vi xc) iT3 I<|cO 0 I I)<|yM I<|yM I<|pU I (iA je iV I I hb2 oM sL)<|pU I (SU.indexAddrC gC zT3 I hb2 I dC dC)<|pK I (aZ (e:=dJ) (o:=1) (u:=vi z2) iT3 I (za7 hp) hgj I)<|pU I (eQ I I)<|pN<|tN<|iP I (fun hx=>?_) (fun hx=>?_)
   ·have hr:dY (byF ps) ⟨xc,xs⟩=⟨z1,xs⟩:=by unfold dY; rw[hat hx.symm]; rfl
    rw[hr] at htk;refine sW rfl<|lM rfl<|lU (iA je iV rfl rfl hb2 oM sL)<|lU (SU.indexAddrC gC zT3 rfl hb2 rfl dC dC)<|lK (aZ (e:=dJ) (o:=0) (u:=vi z1) iT3 rfl (za7 hp) hgj rfl)<|lU (fA bZ rfl zT3 rfl)<|oZ (SO.store1 0 zT3 rfl rfl rfl rfl (bE rfl)<|by rfl) ?_;refine tZ<|xI<|ST.blockO dC<|tX<|tX<|bX<|tN<|rG<|lU (fA aq I aJ I)<|lK (qL (v:=w) aX I<|cO 2 I I)<|lK (qV 0 eK aH I I I)<|lW (bS sty32 I I I (ae sB) dC) ?_;rintro _ _ _ ⟨b43,rfl,rfl,rfl⟩;refine lW (aP (e:=encSide) 1 ⟨z1,xs⟩ sty32 I I I I I oM oM) ?_;rintro w' _ _ ⟨rfl,rfl⟩;refine zd4 fun ⟨w0,hw0⟩=>?_;obtain ⟨q',d',rfl⟩:=ag (e:=encSide) (l:=(l.take k).map (dY<|byF ps)++[(⟨z1,xs⟩:Side)]) (i:=1) hw0 rfl;clear hw0 w0;refine lU (fA aq rfl aJ rfl)<|oZ (SO.store1 2 aJ rfl rfl rfl rfl (bE rfl)<|by rfl) ?_;refine nL<|bN<|tN<|rG<|lM I<|yD I<|lA I<|nL<|dR (.cons _<|.refl _) ?_;exact gA (k+1,_) sB I (by dsimp only; rw[htk]; rfl) (by dsimp only; omega) (by dsimp only; omega)
   ·exact kP<|bN<|tN<|rG<|lM I<|yD I<|lA I<|nL<|gA (j+1) sB I I ⟨oM,hsucc fun h=>hx h.symm⟩ oM
  ·have hr:dY (byF ps) ⟨xc,xs⟩=⟨xc,xs⟩:=by
    unfold dY;rw[CJ fun z hz=>?_]
    ·rfl
    ·obtain ⟨i,hi,rfl⟩:=zc8 hz;exact hno i oM hi
   rw[hr] at htk;refine xI<|tX<|tX<|bX<|tN<|rG<|lU (fA aq I aJ I)<|lK (qL (v:=w) aX I<|cO 2 I I)<|lK (qV 0 eK aH I I I)<|lW (bS sty32 I I I (ae sB) dC) ?_;rintro _ _ _ ⟨b43,rfl,rfl,rfl⟩;refine lW (aP (e:=encSide) 1 ⟨xc,xs⟩ sty32 I I I I I oM oM) ?_;rintro w' _ _ ⟨rfl,rfl⟩;refine zd4 fun ⟨w0,hw0⟩=>?_;obtain ⟨q',d',rfl⟩:=ag (e:=encSide) (l:=(l.take k).map (dY<|byF ps)++[(⟨xc,xs⟩:Side)]) (i:=1) hw0 rfl;clear hw0 w0;refine lU (fA aq rfl aJ rfl)<|oZ (SO.store1 2 aJ rfl rfl rfl rfl (bE rfl)<|by rfl) ?_;refine nL<|bN<|tN<|rG<|lM I<|yD I<|lA I<|nL<|dR (.cons _<|.refl _) ?_;exact gA (k+1,_) sB I (by dsimp only; rw[htk]; rfl) (by dsimp only; omega) (by dsimp only; omega)
 ·have hkk:l.take k=l:=tL oM;rw[hkk];refine xI (tX<|tX<|bX<|tN<|sQ<|fS fun g2 hle2 hs2=>?_);exact rG<|lU (fA aq I aJ I)<|lK (qL (v:=w) aX I<|cO 0 I I)<|aT I<|rE<|dR (s':=s) uR<|za8 (.inl I) results115 I ⟨I,hle2,hs2⟩
theorem pd (E:World)(g:PH)(s:Own)(v:Value)(l:List Side)(x:Side)(hv:SlA encSide g v l)(hl:l.length<1099511627776) :
  Ctr Tryz.prog E 119 #[v,.agg #[vi x.cell,vi x.sign]] g s (fun r g' s'=>r=vi ((l.countP fun y=>decide (y=x)):Nat)∧g=g'∧s=s'):=by
 obtain ⟨p,c,rfl⟩:=za4 hv;refine zb2 (args:=[.slice p l.length c,.agg #[vi x.cell,vi x.sign]]) func119 I ntmps119 (bE I)<|rZ (bW (bO I) fun b3=>?_);refine aT I<|rZ<|aT I<|sQ<|rZ<|aT I<|bK<|oP (ι:=Nat) (fun k=>[(0,.slice p l.length c),(3,pp b3 0),(5,vi (((l.take k).countP fun y=>decide (y=x)):Nat)),(6,vi k)]) (fun _=>g) (fun _=>pt b3 (.cells #[vi x.cell,vi x.sign] 55 (0,0))::s)
  (fun k=>k≤l.length) (fun k=>l.length - k) 0 sB rfl rfl (zf9 _) ?_
 rintro k hk;try dsimp only at hk ⊢
 refine sQ<|sW I<|lM I<|lU (eN aM I)<|yL I<|tZ<|iP I (fun hlt=>?_) (fun hlt=>?_)
 ·have hkl:k<l.length:=oM;have hb1:=za6 hv oM;have hgk:l[((k:Nat):Int).toNat]?=some l[k]:=gE hkl;have hcs:(l.take<|k+1).countP (fun y=>decide (y=x))=(l.take k).countP (fun y=>decide (y=x))+(if l[k]=x then 1 else 0):=by
   rw[tS hkl,List.countP_append];congr 1;by_cases h:l[k]=x <;> simp[h]
  have hcl:(l.take k).countP (fun y=>decide (y=x))≤k:=zl2 List.countP_le_length (by rw[ze7]; omega);generalize l[k]=y at *;obtain ⟨yc,ys⟩:=y;refine kP<|tN<|sQ<|bK<|sQ<|dW [] [(0,2),(1,2),(2,2),(3,1),(4,1),(5,2)] ze6 kR<|yM I<|yM I<|pU I (iA aM aH I I hb1 oM sL)<|pK I (eA eK aH I (za7 hv) hgk)<|pK I (qV 0 eK aH I I I)<|pU I (SU.eqlSide ⟨yc,ys⟩ x I I)<|pN<|tN<|iP I (fun he=>?_) (fun he=>?_)
  ·rw[zg4 he] at hcs;exact rG<|lM I<|yD I<|lA I<|nL<|bN<|tN<|rG<|lM I<|yD I<|lA I<|nL<|gA (k+1) ⟨I,I,(by rw[hcs]; rfl),rfl,trivial⟩ rfl rfl oM oM
  ·rw[zg3 he] at hcs;exact kP<|bN<|tN<|rG<|lM I<|yD I<|lA I<|nL<|gA (k+1) ⟨I,I,(by rw[hcs]; rfl),rfl,trivial⟩ rfl rfl oM oM
 ·have hkk:l.take k=l:=tL oM;rw[hkk];exact xI<|tX<|tX<|bX<|tN<|sW I<|aT I<|rE<|dR (s':=s) uR<|za8 (.inl I) results119 I ⟨I,I,I⟩
theorem mc:∀ (a b:List Side),(∀ x∈a,(a.countP fun y=>decide (y=x))≤(b.countP fun y=>decide (y=x)))→∃ r,b.Perm (a++r)
 | [],b,_=>⟨b,List.Perm.refl b⟩
 | x::a,b,h=>by
  have h1:=h x (by simp);rw[List.countP_cons] at h1;have hx:x∈b:=by
   have h2:0<b.countP fun y=>decide (y=x):=by simp at h1; omega
   obtain ⟨y,hy,he⟩:=List.countP_pos_iff.1 h2;rw[← zg6 he];exact hy
  obtain ⟨s1,s2,rfl⟩:=List.append_of_mem hx;obtain ⟨r,hr⟩:=mc a (s1++s2) fun y hy=>by
   have h3:=h y (by simp[hy]);rw[List.countP_cons,List.countP_append,List.countP_cons] at h3;rw[List.countP_append];by_cases e:x=y
   ·subst e; simp at h3 ⊢; omega
   ·simp[e] at h3 ⊢; omega
  exact⟨r,List.perm_middle.trans (by simpa using hr.cons x)⟩
theorem qB {a b:List Side}(hl:a.length=b.length)(h:∀ x∈a,(a.countP fun y=>decide (y=x))=(b.countP fun y=>decide (y=x))):a.Perm b:=by
 obtain ⟨r,hr⟩:=mc a b fun x hx=>Nat.le_of_eq<|h x hx;have h1:=hr.length_eq;rw[ze8] at h1;have h2:r=[]:=zf7 oM;subst h2;rw[zc7] at hr;exact hr.symm
theorem jW (E:World)(g:PH)(s:Own)(v u:Value)(l m:List Side)(hv:SlA encSide g v l)(hu:SlA encSide g u m)(hl:l.length<1099511627776)(hm:m.length<1099511627776) :
  Ctr Tryz.prog E 76 #[v,u] g s (fun r g' s'=>r=vb (decide (hX l=hX m))∧g=g'∧s=s'):=by
 obtain ⟨p,c,rfl⟩:=za4 hv;obtain ⟨q,d,rfl⟩:=za4 hu;have hiff:hX l=hX m↔l.Perm m:=⟨fun h=>(fF l).symm.trans<|h ▸ fF m,fun h=>pn (pG l) (pG m)<|(fF l).trans<|h.trans (fF m).symm⟩;refine zb2 (args:=[.slice p l.length c,.slice q m.length d]) func76 I ntmps76 (bE I)<|rZ<|aT I<|sQ<|sW I<|lU (eN aM I)<|lM I<|lU (eN aM I)<|lU (nQ I I)<|tZ<|iP I (fun hne=>?_) (fun hne=>?_)
 ·exact rZ<|aT I<|rE<|tR<|za8 (.inl I) results76 I ⟨by have:¬ hX l=hX m:=fun e=>hne (by rw[(hiff.1 e).length_eq]); simp[this],I,I⟩
 ·refine kP<|tN<|sQ<|rZ<|aT I<|bK ?_;have hlen:l.length=m.length:=oM;refine oP (ι:=Nat) (fun k=>[(0,.slice p l.length c),(1,.slice q m.length d),(5,vi k)]) (fun _=>g) (fun _=>s) (fun k=>k≤l.length∧∀ j (hj:j<k) (hl:j<l.length),(l.countP fun y=>decide (y=l[j]))=(m.countP fun y=>decide (y=l[j]))) (fun k=>l.length - k) 0
   sB rfl rfl ⟨zf9 _,fun j hj=>absurd hj oM⟩ ?_
  rintro k ⟨hk,hall⟩;refine sQ<|sW I<|lM I<|lU (eN aM I)<|yL I<|tZ<|iP I (fun hlt=>?_) (fun hlt=>?_)
  ·have hkl:k<l.length:=oM;have hb1:=za6 hv oM;have hgk:l[((k:Nat):Int).toNat]?=some l[k]:=gE hkl;have hsucc:(l.countP fun y=>decide (y=l[k]))=(m.countP fun y=>decide (y=l[k]))→∀ j (hj:j<k+1) (hl:j<l.length),(l.countP fun y=>decide (y=l[j]))=(m.countP fun y=>decide (y=l[j])):=fun h j hj hl=>by
    by_cases e:j=k
    ·subst e; exact h
    ·exact hall j oM hl
   have hneq:(l.countP fun y=>decide (y=l[k]))≠(m.countP fun y=>decide (y=l[k]))→¬ hX l=hX m:=fun h e=>h<|(hiff.1 e).countP_eq _;generalize l[k]=x at *;obtain ⟨xc,xs⟩:=x;refine kP<|tN<|sQ<|bK<|sQ<|dW [] [(0,2),(1,2),(2,2),(3,2),(4,1),(6,2),(7,2),(8,2),(9,2),(10,1),(5,0),(11,0),(12,2)] ze6 kR<|yM I<|yM I<|yM I<|pU I (iA aM aH I I hb1 oM sL)<|pK I (eA eK aH I (za7 hv) hgk)<|yM I<|yM I<|yM I<|pU I (iA aM aH I I hb1 oM sL)<|pK I (eA eK aH I (za7 hv) hgk)<|SP.o I (cL call119 I<|pd E g _ _ l ⟨xc,xs⟩ hv hl) dC (.inr iR) ?_;rintro _ _ _ ⟨rfl,rfl,rfl⟩;refine SP.o I (cL call119 I<|pd E g _ _ m ⟨xc,xs⟩ hu hm) dC (.inr iR) ?_;rintro _ _ _ ⟨rfl,rfl,rfl⟩;refine pU I (nQ I I)<|pN<|tN<|iP I (fun hd=>?_) (fun hd=>?_)
   ·have hno:=hneq oM;exact rZ<|aT I<|rE<|bR<|tR<|tR<|bR<|tR<|za8 (.inl I) results76 I ⟨by simp[hno],I,I⟩
   ·exact kP<|bN<|tN<|rG<|lM I<|yD I<|lA I<|nL<|gA (k+1) sB I I ⟨oM,hsucc oM⟩ oM
  ·have hyes:hX l=hX m:=hiff.2 (qB hlen fun x hx=>by
    obtain ⟨j,hj,rfl⟩:=zc8 hx;exact hall j oM hj)
   exact xI<|tX<|tX<|bX<|tN<|rZ<|aT I<|rE<|za8 (.inl I) results76 I ⟨by simp[hyes],I,I⟩
set_option maxHeartbeats 8000000
theorem vq (ps:List Pr):(ic ps).length=2 * ps.length:=by
 induction ps with
 | nil=>rfl
 | cons p ps ih =>
  have hc:ic (p::ps)=p.1::p.2::ic ps:=rfl;rw[hc,zf2,zf2,zf2,ih];omega
def lL (l:List Cl)(id:Int):Int:=((findC l id).getD bD).dim
def iz (l:List Cl)(id:Int):List Side:=((findC l id).getD bD).sides
def gY (l:List Cl)(ps:List Pr)(p:Pr):Bool:=decide (hX ((iz l p.1).map<|dY<|byF ps)=hX ((iz l p.2).map<|dY<|byF ps))
def dj (l:List Cl)(e:Ed):Int :=
 if e.pairs.all (fun p=>(findC l p.1).isSome&&(findC l p.2).isSome) then
  if lJ e.pairs then 54 else if e.pairs.any (fun p=>decide (lL l p.1≠lL l p.2)) then 21 else if e.pairs.all (gY l e.pairs) then 0 else 33
 else 30
def zy (f:Int→Option Int)(c:Cl):Cl:=⟨c.id,c.dim,c.sides.map<|dY f⟩
def fD (l:List Cl)(e:Ed):List Cl:=(dw l<|e.pairs.map Prod.snd).map (zy<|byF e.pairs)
def fg (ps:List Pr)(M:List (Int×List Tm)):List (Int×List Tm):=ps.foldl (fun M p=>M.map<|cS p.2 [(p.1,1)]) M
theorem su {ps:List Pr}{k:Nat}(hk:k<ps.length)(M:List (Int×List Tm)):fg (ps.take<|k+1) M=(fg (ps.take k) M).map (cS ps[k].2 [(ps[k].1,1)]):=by
 unfold fg;rw[tS hk,zj3];rfl
theorem tI (ps:List Pr):∀ M,(fg ps M).length=M.length:=by
 unfold fg;induction ps with
 | nil=>intro M; rfl
 | cons p ps ih=>intro M; rw[zj2,ih,ze9]
theorem Ah {α:Type}(f:α→α){l:List α}{k:Nat}(hk:k<l.length):(l.take<|k+1).map f++l.drop (k+1)=((l.take k).map f++l.drop k).set k (f l[k]):=by
 rw[tS hk,zg8,zh2,List.set_append_right _ _ (by rw[ze9,ze7]; omega),ze9,ze7,show k - min k l.length=0 by omega];congr 1;rw[zg9 hk];rfl
theorem BO {α:Type}(f:α→α){l:List α}{k:Nat}(hk:k<l.length):((l.take k).map f++l.drop k)[k]?=some l[k]:=by
 rw[zh6 (by rw[ze9,ze7]; omega),ze9,ze7,show k - min k l.length=0 by omega,zg9 hk];rfl
theorem Ae {L:List Int}(h:∀ a (ha:a<L.length) b (hb:b<a),L[a]≠L[b]'oM):L.Nodup:=by
 rw[List.nodup_iff_pairwise_ne,zd1];intro i j hi hj hij e;exact h j hj i hij e.symm
theorem mR (E:World)(g:PH)(s:Own)(v ev:Value)(l:List Cl)(e:Ed)(hv:ao g v l)(hf:bo l)(he:EdR g ev e)(hpl:e.pairs.length<100000000000)(hfs:∀ id,(iz l id).length<1099511627776) :
  Ctr Tryz.prog E 73 #[.agg #[v],ev] g s (fun r g' s'=>s=s'∧Le g g'∧Bf (dj l e) (if dj l e=0 then fD l e else l) (fg e.pairs<|(am l).map fX) false r g'):=by
 obtain ⟨sv,pv,rfl,hsv,hpv⟩:=he;obtain ⟨sp,sc,rfl⟩:=za4 hsv;obtain ⟨pq,pc,rfl⟩:=za4 hpv;obtain ⟨p,c,rfl⟩:=hv.form;refine zb2 (args:=[.agg #[.slice p l.length c],.agg #[vi e.kind,vi e.cell,vi e.dim,vi e.new,vi e.other,.slice sp e.sides.length sc,.slice pq e.pairs.length pc]]) func73 I ntmps73 (bE I)<|rZ (bW (bO I) fun b2=>?_);refine bW (bO I) fun b3=>bW (aL zl5) fun b4=>bW (aL zl7) fun b5=>aT I<|rZ<|aT I<|rZ<|aT I<|sQ<|rZ<|aT I<|bK<|zb6 3 1<|zb6 3 1<|oP (ι:=Nat×PH×Value×Value) (fun i=>[(2,pp b2 0),(3,pp b3 0),(4,pp b4 0),(5,pp b5 0),(7,i.2.2.1),(8,i.2.2.2),(9,vi i.1)]) (fun i=>i.2.1)
  (fun i=>rowA encInt 3 i.2.2.1 (ic<|e.pairs.take i.1)::rowA encInt 3 i.2.2.2 ((e.pairs.take i.1).map Prod.snd)::pt b5 (.cells #[.slice none 0 0,vb false] 46 (0,0))::pt b4 (.cells #[.slice none 0 0] 29 (0,0))::pt b3 (.cells (edV e (.slice sp e.sides.length sc)<|.slice pq e.pairs.length pc) 35 (0,0))::pt b2 (.cells #[.slice p l.length c] 29 (0,0))::s)
  (fun i=>i.1≤e.pairs.length∧Le g i.2.1∧(∀ q∈e.pairs.take i.1,(findC l q.1).isSome=true∧(findC l q.2).isSome=true)) (fun i=>e.pairs.length - i.1) (0,g,.slice none 0 0,.slice none 0 0)
  sB rfl rfl ⟨zf9 _,zb9 _,fun q hq=>by simp at hq⟩ ?_
 rintro ⟨k,g1,wa,wg⟩ ⟨hk,hle1,hfd⟩;dsimp only at hk hle1 hfd ⊢;refine sQ<|sW I<|lU (fA aU I jd I)<|lK (qL (v:=.slice pq e.pairs.length pc) lk I<|cO 4 I I)<|lU (eN je I)<|yL I<|tZ<|iP I (fun hlt=>?_) (fun hlt=>?_)
 ·have hkl:k<e.pairs.length:=oM;have hb1:=za6 hpv oM;have hpv1:=za5 hpv hle1;have hv1:=hv.mono hle1;have hgk:e.pairs[((k:Nat):Int).toNat]?=some e.pairs[k]:=gE hkl;have htk:e.pairs.take (k+1)=e.pairs.take k++[e.pairs[k]]:=tS hkl;have hal:=vq<|e.pairs.take k;rw[ze7] at hal;have hgl:((e.pairs.take k).map Prod.snd).length≤k:=by rw[ze9,ze7]; omega
  have hnone:¬ ((findC l e.pairs[k].1).isSome=true∧(findC l e.pairs[k].2).isSome=true)→dj l e=30:=fun h=>by
   unfold dj;rw[zg3];intro h2;have h3:=zk3.1 h2 _<|gM hkl;rw[zj6] at h3;exact h h3
  have hal1:ic (e.pairs.take<|k+1)=ic (e.pairs.take k)++[e.pairs[k].1,e.pairs[k].2]:=by rw[htk,nr]
  have hgo1:(e.pairs.take<|k+1).map Prod.snd=(e.pairs.take k).map Prod.snd++[e.pairs[k].2]:=by rw[htk,zg8]; rfl
  generalize e.pairs[k]=x at *;obtain ⟨x1,x2⟩:=x;dsimp only at hnone hal1 hgo1;cases hx1:(findC l x1).isSome with
  | false =>
   rw[hnone (by rw[hx1]; rintro ⟨h,_⟩; cases h)];refine kP<|tN<|sQ<|bK<|sQ<|sQ<|dW [] [(0,1),(1,2),(2,1),(3,2),(4,2),(5,2),(6,1),(7,0),(8,2),(9,2),(10,1),(11,2),(12,1),(13,2),(14,2),(15,2),(16,1),(17,0),(18,2),(19,2)] ze6 kR<|pK I (qV 5 aw ah I I I)<|pU I (fA aU I jd I)<|pK I (qL (v:=.slice pq e.pairs.length pc) lk I<|cO 4 I I)<|yM I<|pU I (iA je iV I I hb1 oM sL)<|pU I (SU.indexAddrC gC zT3 I hb1 I dC dC)<|pK I (aZ (e:=dJ) (o:=0) (u:=vi x1) iT3 I (za7 hpv1) hgk I)<|SP.o I (cL call110 I<|df E g1 _ _ l x1 hv1 hf) dC (.inr iR) ?_;rintro _ g2 _ ⟨rfl,rfl,hle2⟩;rw[hx1];refine pU I (SU.not I)<|yM I<|yI I<|yG I<|yI I<|yG I<|yG I<|yG I<|yI I<|fO I (gZ I I I dC) dC ⟨by assumption,(by exact .refl _)⟩ ?_;refine yG I<|pU I (wT I I)<|pN<|tN<|za2 I<|rZ<|lK (qV 5 aw ah I I I)<|lU (za3 I buildZ46)<|oZ (sK 3 ah I I I I I sB) ?_;refine oZ (sK 2 bC I I I I I sB) ?_;refine aT I<|rE<|tR<|bR<|tR<|tR<|bR<|tR ?_;exact ST.retCCT 3 2 s (.inl I) results73 I I I aw ah fm bC I I I I uR ⟨I,hle1.trans hle2,_,_,_,_,I,hv1.mono hle2,fun h=>by cases h⟩
  | true =>
  cases hx2:(findC l x2).isSome with
  | false =>
   rw[hnone (by rw[hx2]; rintro ⟨_,h⟩; cases h)];refine kP<|tN<|sQ<|bK<|sQ<|sQ<|dW [] [(0,1),(1,2),(2,1),(3,2),(4,2),(5,2),(6,1),(7,0),(8,2),(9,2),(10,1),(11,2),(12,1),(13,2),(14,2),(15,2),(16,1),(17,0),(18,2),(19,2)] ze6 kR<|pK I (qV 5 aw ah I I I)<|pU I (fA aU I jd I)<|pK I (qL (v:=.slice pq e.pairs.length pc) lk I<|cO 4 I I)<|yM I<|pU I (iA je iV I I hb1 oM sL)<|pU I (SU.indexAddrC gC zT3 I hb1 I dC dC)<|pK I (aZ (e:=dJ) (o:=0) (u:=vi x1) iT3 I (za7 hpv1) hgk I)<|SP.o I (cL call110 I<|df E g1 _ _ l x1 hv1 hf) dC (.inr iR) ?_;rintro _ g2 _ ⟨rfl,rfl,hle2⟩;rw[hx1];refine pU rfl (SU.not rfl)<|yM rfl<|SP.gq rfl (gT rfl rfl rfl dC) (qV 5 aw ah rfl rfl rfl) dC<|zb3 rfl (gT rfl rfl rfl dC) (fA aU rfl jd rfl) dC<|SP.gq rfl (gT rfl rfl rfl dC) (qL (v:=.slice pq e.pairs.length pc) lk rfl<|cO 4 rfl rfl) dC<|yJ rfl<|zb3 rfl (gT rfl rfl rfl dC) (iA je iV rfl rfl hb1 oM sL) dC<|zb3 rfl (gT rfl rfl rfl dC) (SU.indexAddrC gC zT3 rfl hb1 rfl dC dC) dC<|SP.gq rfl (gT rfl rfl rfl dC) (aZ (e:=dJ) (o:=1) (u:=vi x2) iT3 rfl (za7 hpv1) hgk rfl) dC<|SP.go rfl (gT rfl rfl rfl dC) (cL call110 rfl<|df E _ _ _ l x2 (hv1.mono<|by assumption) hf) dC (.inr (by rintro _ g3 _ ⟨rfl,rfl,hle3⟩; exact⟨by exact Le.trans (by assumption) (by assumption),(by exact .refl _)⟩)) ?_;rintro _ g3 _ ⟨rfl,rfl,hle3⟩;rw[hx2];have hle23:=hle2.trans hle3;refine zb3 I (gT I I I dC) (SU.not I) dC<|pU I (wF I I)<|pN<|tN<|za2 I<|rZ<|lK (qV 5 aw ah I I I)<|lU (za3 I buildZ46)<|oZ (sK 3 ah I I I I I sB) ?_;refine oZ (sK 2 bC I I I I I sB) ?_;refine aT I<|rE<|tR<|bR<|tR<|tR<|bR<|tR ?_;exact ST.retCCT 3 2 s (.inl I) results73 I I I aw ah fm bC I I I I uR ⟨I,hle1.trans hle23,_,_,_,_,I,hv1.mono hle23,fun h=>by cases h⟩
  | true =>
  refine kP (tN (sQ (bK (sQ (sQ ?_)))));refine dW [] [(0,1),(1,2),(2,1),(3,2),(4,2),(5,2),(6,1),(7,0),(8,2),(9,2),(10,1),(11,2),(12,1),(13,2),(14,2),(15,2),(16,1),(17,0),(18,2),(19,2)] ze6 kR<|pK I (qV 5 aw ah I I I) (pU I (fA aU I jd I) (pK I (qL (v:=.slice pq e.pairs.length pc) lk I (cO 4 I I)) (yM I (pU I (iA je iV I I hb1 oM sL) (pU I (SU.indexAddrC gC zT3 I hb1 I dC dC) (pK I (aZ (e:=dJ) (o:=0) (u:=vi x1) iT3 I (za7 hpv1) hgk I) (SP.o I (cL call110 I (df E g1 _ _ l x1 hv1 hf)) dC (.inr iR) ?_)))))));rintro _ g2 _ ⟨rfl,rfl,hle2⟩;rw[hx1];refine pU rfl (SU.not rfl) (yM rfl (SP.gq rfl (gT rfl rfl rfl dC) (qV 5 aw ah rfl rfl rfl) dC (zb3 rfl (gT rfl rfl rfl dC) (fA aU rfl jd rfl) dC (SP.gq rfl (gT rfl rfl rfl dC) (qL (v:=.slice pq e.pairs.length pc) lk rfl (cO 4 rfl rfl)) dC (yJ rfl (zb3 rfl (gT rfl rfl rfl dC) (iA je iV rfl rfl hb1 oM sL) dC (zb3 rfl (gT rfl rfl rfl dC) (SU.indexAddrC gC zT3 rfl hb1 rfl dC dC) dC (SP.gq rfl (gT rfl rfl rfl dC) (aZ (e:=dJ) (o:=1) (u:=vi x2) iT3 rfl (za7 hpv1) hgk rfl) dC (SP.go rfl (gT rfl rfl rfl dC) (cL call110 rfl (df E _ _ _ l x2 (hv1.mono (by assumption)) hf)) dC (.inr (by rintro _ g3 _ ⟨rfl,rfl,hle3⟩; exact⟨by exact Le.trans (by assumption) (by assumption),(by exact .refl _)⟩)) ?_)))))))));rintro _ g3 _ ⟨rfl,rfl,hle3⟩;rw[hx2];have hle23:=hle2.trans hle3;have hpv3:=za5 hpv1 hle23;refine zb3 I (gT I I I dC) (SU.not I) dC (pU I (wF I I) (pN (tN (za1 I (kP (tN (sQ ?_)))))));refine dW [14] [(0,2),(1,2),(2,1),(3,2),(4,2),(5,2),(6,1),(7,2),(8,1),(9,2),(10,2),(11,2),(12,1),(13,0),(14,0),(15,2)] ze6 kR ?_;refine yM I (pU I (fA aU I jd I) (pK I (qL (v:=.slice pq e.pairs.length pc) lk I (cO 4 I I)) (yM I (pU I (iA je iV I I hb1 oM sL) (pU I (SU.indexAddrC gC zT3 I hb1 I dC dC) (pK I (aZ (e:=dJ) (o:=0) (u:=vi x1) iT3 I (za7 hpv3) hgk I) (pU I (fA aU I jd I) (pK I (qL (v:=.slice pq e.pairs.length pc) lk I (cO 4 I I)) (yM I (pU I (iA je iV I I hb1 oM sL) (pU I (SU.indexAddrC gC zT3 I hb1 I dC dC) (pK I (aZ (e:=dJ) (o:=1) (u:=vi x2) iT3 I (za7 hpv3) hgk I) (SP.o I (bS sty83 I I I (ae sB) dC) dC (.inr iR) ?_)))))))))))));rintro _ _ _ ⟨b64,rfl,rfl,rfl⟩;refine SP.to (fun w hw=>At.litRow (e:=encInt) (l:=[x1,x2]) (n:=1) hw I I dC) ?_;refine zd7 fun g4 hle4 hs4=>?_;refine SP.o I (aQ (e:=encInt) (l:=ic (e.pairs.take k)) (m:=[x1,x2]) 0 sty83 I I I hs4 (by simp; omega) (by simp; omega)) dC (.inl dC) ?_;rintro wa' _ _ ⟨rfl,rfl⟩;refine pU I (aS I) (pN (tN ?_));have hpv4:=za5 hpv3 hle4;refine rG (lM I (lU (fA aU I jd I) (lK (qL (v:=.slice pq e.pairs.length pc) lk I (cO 4 I I)) (lM I (lU (iA je iV I I hb1 oM sL) (lU (SU.indexAddrC gC zT3 I hb1 I dC dC) (lK (aZ (e:=dJ) (o:=1) (u:=vi x2) iT3 I (za7 hpv4) hgk I) (lW (bS sty83 I I I (ae ⟨I,trivial⟩) dC) ?_))))))));rintro _ _ _ ⟨b73,rfl,rfl,rfl⟩;refine lW (aP (e:=encInt) 1 x2 sty83 I I I I I oM oM) ?_;rintro wg' _ _ ⟨rfl,rfl⟩;refine lA I (nL (bN (tN (rG (lM I (yD I (lA I (nL ?_))))))));exact gA (k+1,g4,wa',wg') sB I (by dsimp only; rw[hal1,hgo1]; rfl) ⟨by dsimp only; omega,hle1.trans (hle23.trans hle4),fun q hq=>by
   dsimp only at hq;rw[htk] at hq
   rcases zf6.1 hq with hq | hq
   ·exact hfd q hq
   ·simp at hq; subst hq; exact⟨hx1,hx2⟩⟩ (by dsimp only; omega)
 ·have hkk:e.pairs.take k=e.pairs:=tL oM;rw[hkk] at hfd ⊢;have hfa:e.pairs.all (fun p=>(findC l p.1).isSome&&(findC l p.2).isSome)=true:=zk3.2 fun p hp=>by
   obtain ⟨h1,h2⟩:=hfd p hp;rw[h1,h2];rfl
  have hcode:dj l e=if lJ e.pairs then 54 else if e.pairs.any (fun p=>decide (lL l p.1≠lL l p.2)) then 21 else if e.pairs.all (gY l e.pairs) then 0 else 33:=by unfold dj; rw[zg4 hfa]
  rw[hcode];have hal:=vq e.pairs;refine xI (tX<|tX<|bX<|tN<|sQ<|sQ<|fS fun g2 hle2 hsa=>?_);refine fS fun g3 hle3 hsg=>?_;have hle23:=hle2.trans hle3;have hsa3:dQ g3 wa (ic e.pairs):=Sl.mono hsa hle3;obtain ⟨qa,da,rfl⟩:=za4 hsa3;have hsg3:dQ g3 wg (e.pairs.map Prod.snd):=hsg;obtain ⟨qg,dg,rfl⟩:=za4 hsg3;refine rG<|aT I<|bK ?_;have hle03:=hle1.trans hle23;have hv3:=hv.mono hle03;have hpv3:=za5 hpv hle03;generalize hL:ic e.pairs=L at *;refine oP (ι:=Nat) (fun i=>[(2,pp b2 0),(3,pp b3 0),(4,pp b4 0),(5,pp b5 0),(7,.slice qa L.length da),(8,.slice qg (e.pairs.map Prod.snd).length dg),(10,vi i)]) (fun _=>g3)
   (fun _=>pt b5 (.cells #[.slice none 0 0,vb false] 46 (0,0))::pt b4 (.cells #[.slice none 0 0] 29 (0,0))::pt b3 (.cells (edV e (.slice sp e.sides.length sc)<|.slice pq e.pairs.length pc) 35 (0,0))::pt b2 (.cells #[.slice p l.length c] 29 (0,0))::s)
   (fun i=>i≤L.length∧∀ a (ha:a<i) (hl:a<L.length) b (hb:b<a),L[a]≠L[b]'oM) (fun i=>L.length - i) 0 sB rfl rfl ⟨zf9 _,fun a ha=>absurd ha oM⟩ ?_
  rintro i ⟨hi,hdf⟩;try dsimp only at hi hdf ⊢
  refine sQ<|sW I<|lM I<|lU (eN aK I)<|yL I<|tZ<|iP I (fun hlt2=>?_) (fun hlt2=>?_)
  ·have hil:i<L.length:=oM;have hbL:=za6 hsa3 oM;have hgi:L[((i:Nat):Int).toNat]?=some L[i]:=gE hil;refine kP<|tN<|sQ<|bK<|rZ<|aT I<|bK<|oP (ι:=Nat) (fun j=>[(2,pp b2 0),(3,pp b3 0),(4,pp b4 0),(5,pp b5 0),(7,.slice qa L.length da),(8,.slice qg (e.pairs.map Prod.snd).length dg),(10,vi i),(11,vi j)]) (fun _=>g3)
    (fun _=>pt b5 (.cells #[.slice none 0 0,vb false] 46 (0,0))::pt b4 (.cells #[.slice none 0 0] 29 (0,0))::pt b3 (.cells (edV e (.slice sp e.sides.length sc)<|.slice pq e.pairs.length pc) 35 (0,0))::pt b2 (.cells #[.slice p l.length c] 29 (0,0))::s)
    (fun j=>j≤i∧∀ b (hb:b<j) (hl:b<L.length),L[i]≠L[b]) (fun j=>i - j) 0 sB rfl rfl ⟨zf9 _,fun b hb=>absurd hb oM⟩ ?_
   rintro j ⟨hj,hdj⟩;try dsimp only at hj hdj ⊢
   refine sQ<|sW I<|lM I<|yL I<|tZ<|iP I (fun hlt3=>?_) (fun hlt3=>?_)
   ·have hjl:j<L.length:=oM;have hgj:L[((j:Nat):Int).toNat]?=some L[j]:=gE hjl;refine kP<|tN<|sQ<|bK<|sQ<|dW [] [(0,2),(1,2),(2,2),(3,1),(4,2),(5,2),(6,2),(7,1),(8,2)] ze6 kR<|yM I<|yM I<|pU I (iA aK zT3 I I hbL oM sL)<|pK I (eB iT3 I (za7 hsa3) hgi I)<|yM I<|yM I<|pU I (iA aK zT3 I I hbL oM sL)<|pK I (eB iT3 I (za7 hsa3) hgj I)<|pU I (eQ I I)<|pN<|tN<|iP I (fun heq=>?_) (fun heq=>?_)
    ·have hdup:lJ e.pairs=true:=by
      unfold lJ;rw[hL];refine zg2 fun hn=>?_;have h5:=(List.getElem_inj hn).1 heq;omega
     rw[zg4 hdup];exact rZ<|lK (qV 3 aw ah I I I)<|lU (za3 I buildZ46)<|oZ (sK 1 ah I I I I I sB)<|oZ (sK 0 bC I I I I I sB)<|aT I<|rE<|bR<|tR<|tR<|bR<|bR<|tR<|tR<|bR<|tR<|ST.retCCT 1 0 s (.inl I) results73 I I I aw ah fm bC I I I I uR ⟨I,hle03,_,_,_,_,I,hv3,fun h=>by cases h⟩
    ·refine kP (bN (tN (rG (lM I (yD I (lA I (nL ?_)))))));exact gA (j+1) sB I I ⟨oM,fun b hb hl=>by
      by_cases e9:b=j
      ·subst e9; exact heq
      ·exact hdj b oM hl⟩ oM
   ·refine xI (tX (tX (bX (bN (tN (rG (lM I (yD I (lA I (nL ?_))))))))));exact gA (i+1) sB I I ⟨oM,fun a ha hl b hb=>by
     by_cases e9:a=i
     ·subst e9; exact hdj b oM oM
     ·exact hdf a oM hl b hb⟩ oM
  ·have hnd:L.Nodup:=Ae fun a ha b hb=>hdf a oM ha b hb;have hdup:lJ e.pairs=false:=by
    unfold lJ;rw[hL];exact zg1 fun h=>h hnd
   rw[hdup,zg3 Bool.false_ne_true];refine xI<|tX<|tX<|bX<|tN<|rZ<|aT I<|sQ<|rZ<|aT I<|bK<|oP (ι:=Nat×PH) (fun i=>[(2,pp b2 0),(3,pp b3 0),(4,pp b4 0),(5,pp b5 0),(8,.slice qg (e.pairs.map Prod.snd).length dg),(12,vi (if (e.pairs.take i.1).all (gY l e.pairs) then 0 else 33)),(13,vi i.1)]) (fun i=>i.2)
    (fun _=>pt b5 (.cells #[.slice none 0 0,vb false] 46 (0,0))::pt b4 (.cells #[.slice none 0 0] 29 (0,0))::pt b3 (.cells (edV e (.slice sp e.sides.length sc)<|.slice pq e.pairs.length pc) 35 (0,0))::pt b2 (.cells #[.slice p l.length c] 29 (0,0))::s)
    (fun i=>i.1≤e.pairs.length∧Le g3 i.2∧(e.pairs.take i.1).any (fun p=>decide (lL l p.1≠lL l p.2))=false) (fun i=>e.pairs.length - i.1) (0,g3) sB rfl rfl ⟨zf9 _,zb9 _,rfl⟩ ?_
   rintro ⟨k3,g4⟩ ⟨hk3,hle4,hdm⟩;dsimp only at hk3 hle4 hdm ⊢;refine sQ<|sW I<|lU (fA aU I jd I)<|lK (qL (v:=.slice pq e.pairs.length pc) lk I<|cO 2 I I)<|lU (eN je I)<|yL I<|tZ<|iP I (fun hlt4=>?_) (fun hlt4=>?_)
   ·have hkl:k3<e.pairs.length:=oM;have hb1:=za6 hpv oM;have hpv4:=za5 hpv3 hle4;have hv4:=hv3.mono hle4;have hgk:e.pairs[((k3:Nat):Int).toNat]?=some e.pairs[k3]:=gE hkl;have htk:e.pairs.take (k3+1)=e.pairs.take k3++[e.pairs[k3]]:=tS hkl;have hd21:lL l e.pairs[k3].1≠lL l e.pairs[k3].2→e.pairs.any (fun p=>decide (lL l p.1≠lL l p.2))=true:=fun h=>zk2.2 ⟨_,gM hkl,zg2 h⟩;have hdm1:lL l e.pairs[k3].1=lL l e.pairs[k3].2→(e.pairs.take<|k3+1).any (fun p=>decide (lL l p.1≠lL l p.2))=false:=fun h=>by
     rw[htk,List.any_append,hdm,Bool.false_or];simp[h]
    have hak1:(e.pairs.take<|k3+1).all (gY l e.pairs)=((e.pairs.take k3).all (gY l e.pairs)&&gY l e.pairs e.pairs[k3]):=by
     rw[htk,List.all_append];simp
    have hl1:=hfs e.pairs[k3].1;have hl2:=hfs e.pairs[k3].2;generalize e.pairs[k3]=x at *;obtain ⟨x1,x2⟩:=x;dsimp only at hd21 hdm1 hl1 hl2;have hal12:gY l e.pairs (x1,x2)=decide (hX ((iz l x1).map<|dY<|byF e.pairs)=hX ((iz l x2).map<|dY<|byF e.pairs)):=rfl;generalize gY l e.pairs (x1,x2)=al at *;refine kP<|tN<|sQ<|bK<|SC.cut (ι:=Nat×PH×Rc) (fun i=>[(2,pp b2 0),(3,pp b3 0),(4,pp b4 0),(5,pp b5 0),(8,.slice qg (e.pairs.map Prod.snd).length dg),(12,vi (if (e.pairs.take k3).all (gY l e.pairs) then 0 else 33)),(13,vi k3),(14,pp i.1 0)]) (fun i=>i.2.1)
     (fun i=>pt i.1 (.cells #[vi i.2.2.id,vi i.2.2.dim,.slice i.2.2.sv.p i.2.2.sv.n i.2.2.sv.c] 53 (0,0))::pt b5 (.cells #[.slice none 0 0,vb false] 46 (0,0))::pt b4 (.cells #[.slice none 0 0] 29 (0,0))::pt b3 (.cells (edV e (.slice sp e.sides.length sc)<|.slice pq e.pairs.length pc) 35 (0,0))::pt b2 (.cells #[.slice p l.length c] 29 (0,0))::s)
     (fun i=>Le g4 i.2.1∧ar i.2.1 ((findC l x1).getD bD) i.2.2) ?_ ?_
    ·refine SC.drawX [12] ze6 kR ?_;refine SX.q (i:=0) I kR (qV 3 aw ah I I I) dC<|SX.u (i:=1) I kR (fA aU I jd I) dC<|SX.q (i:=2) I kR (qL (v:=.slice pq e.pairs.length pc) lk I<|cO 2 I I) dC<|SX.u (i:=3) I kR (mV I) dC<|SX.u (i:=4) I kR (iA je iV I I hb1 oM sL) dC<|SX.u (i:=5) I kR (SU.indexAddrC gC zT3 I hb1 I dC dC) dC<|SX.q (i:=6) I kR (aZ (e:=dJ) (o:=0) (u:=vi x1) iT3 I (za7 hpv4) hgk I) dC ?_
     repeat' (first
      | (refine SB.o (i:=7) rfl (cL call41 rfl<|bw E g4 _ _ l x1 hv4 hf) dC (.inr (by rintro _ g5 _ ⟨rfl,hle5,r5,rfl,hcr5⟩; exact⟨by assumption,(by exact .cons _<|.refl _)⟩)) ?_; rintro _ g5 _ ⟨rfl,hle5,r5,rfl,hcr5⟩; refine SX.u (i:=8) I kD (mV I) dC ?_; refine SX.u (i:=9) I kD (xT I I) dC ?_; refine SX.u (i:=10) I kD (xT I I) dC ?_)
      | (refine SB.o (i:=7) rfl (cL call41 rfl<|bw E g4 _ _ l x1 hv4 hf) dC (.inr (by rintro _ g5 _ ⟨rfl,hle5,r5,rfl,hcr5⟩; exact⟨by assumption,(by exact .refl _)⟩)) ?_; rintro _ g5 _ ⟨rfl,hle5,r5,rfl,hcr5⟩; refine SX.u (i:=8) I kD (mV I) dC ?_; refine SX.u (i:=9) I kD (xT I I) dC ?_; refine SX.u (i:=10) I kD (xT I I) dC ?_)
      | (refine SB.o (i:=11) rfl (aL zl8) dC (.inr (by rintro _ _ _ ⟨b14,rfl,rfl,rfl⟩; exact⟨by exact zb9 _,(by exact .cons _<|.refl _)⟩)) ?_; rintro _ _ _ ⟨b14,rfl,rfl,rfl⟩)
      | (refine SB.o (i:=11) rfl (aL zl8) dC (.inr (by rintro _ _ _ ⟨b14,rfl,rfl,rfl⟩; exact⟨by assumption,(by exact .cons _<|.refl _)⟩)) ?_; rintro _ _ _ ⟨b14,rfl,rfl,rfl⟩)
      | (refine SB.on (i:=12) I (sK 0 au I I I I I sB) (.inl dC) ?_; rintro _ _ _ ⟨rfl,rfl⟩; refine SX.u (i:=13) I kD (aS I) dC ?_)
      | refine zd9 7 11 kD ?_ ?_
      | refine zd8 11 kD ?_
      | refine zd8 12 kD ?_
      | refine zd8 7 kD ?_
      | (refine SX.nil kD ?_; exact za9 (b14,g5,r5) sB I I ⟨hle5,hcr5⟩))
    rintro ⟨b14,g5,r5⟩ ⟨hle5,hcr5⟩;obtain ⟨ri1,rd1,rp1,rn1,rk1⟩:=r5;obtain ⟨f1,f2,hs1⟩:=hcr5;dsimp only at hle5 f1 f2 hs1 ⊢;have hv5:=hv4.mono hle5;have hpv5:=za5 hpv4 hle5;refine SC.cut (ι:=Nat×PH×Rc) (fun i=>[(2,pp b2 0),(3,pp b3 0),(4,pp b4 0),(5,pp b5 0),(8,.slice qg (e.pairs.map Prod.snd).length dg),(12,vi (if (e.pairs.take k3).all (gY l e.pairs) then 0 else 33)),(13,vi k3),(14,pp b14 0),(16,pp i.1 0)]) (fun i=>i.2.1)
     (fun i=>pt i.1 (.cells #[vi i.2.2.id,vi i.2.2.dim,.slice i.2.2.sv.p i.2.2.sv.n i.2.2.sv.c] 53 (0,0))::pt b14 (.cells #[vi ri1,vi rd1,.slice rp1 rn1 rk1] 53 (0,0))::pt b5 (.cells #[.slice none 0 0,vb false] 46 (0,0))::pt b4 (.cells #[.slice none 0 0] 29 (0,0))::pt b3 (.cells (edV e (.slice sp e.sides.length sc)<|.slice pq e.pairs.length pc) 35 (0,0))::pt b2 (.cells #[.slice p l.length c] 29 (0,0))::s)
     (fun i=>Le g5 i.2.1∧ar i.2.1 ((findC l x2).getD bD) i.2.2) ?_ ?_
    ·refine SC.drawX [12] ze6 kR ?_;refine SX.q (i:=0) I kR (qV 4 aw ah I I I) dC<|SX.u (i:=1) I kR (fA aU I jd I) dC<|SX.q (i:=2) I kR (qL (v:=.slice pq e.pairs.length pc) lk I<|cO 3 I I) dC<|SX.u (i:=3) I kR (mV I) dC<|SX.u (i:=4) I kR (iA je iV I I hb1 oM sL) dC<|SX.u (i:=5) I kR (SU.indexAddrC gC zT3 I hb1 I dC dC) dC<|SX.q (i:=6) I kR (aZ (e:=dJ) (o:=1) (u:=vi x2) iT3 I (za7 hpv5) hgk I) dC ?_
     repeat' (first
      | (refine SB.o (i:=7) rfl (cL call41 rfl<|bw E g5 _ _ l x2 hv5 hf) dC (.inr (by rintro _ g6 _ ⟨rfl,hle6,r6,rfl,hcr6⟩; exact⟨by assumption,(by exact .cons _<|.refl _)⟩)) ?_; rintro _ g6 _ ⟨rfl,hle6,r6,rfl,hcr6⟩; refine SX.u (i:=8) I kD (mV I) dC ?_; refine SX.u (i:=9) I kD (xT I I) dC ?_; refine SX.u (i:=10) I kD (xT I I) dC ?_)
      | (refine SB.o (i:=7) rfl (cL call41 rfl<|bw E g5 _ _ l x2 hv5 hf) dC (.inr (by rintro _ g6 _ ⟨rfl,hle6,r6,rfl,hcr6⟩; exact⟨by assumption,(by exact .refl _)⟩)) ?_; rintro _ g6 _ ⟨rfl,hle6,r6,rfl,hcr6⟩; refine SX.u (i:=8) I kD (mV I) dC ?_; refine SX.u (i:=9) I kD (xT I I) dC ?_; refine SX.u (i:=10) I kD (xT I I) dC ?_)
      | (refine SB.o (i:=11) rfl (aL zl8) dC (.inr (by rintro _ _ _ ⟨b16,rfl,rfl,rfl⟩; exact⟨by exact zb9 _,(by exact .cons _<|.refl _)⟩)) ?_; rintro _ _ _ ⟨b16,rfl,rfl,rfl⟩)
      | (refine SB.o (i:=11) rfl (aL zl8) dC (.inr (by rintro _ _ _ ⟨b16,rfl,rfl,rfl⟩; exact⟨by assumption,(by exact .cons _<|.refl _)⟩)) ?_; rintro _ _ _ ⟨b16,rfl,rfl,rfl⟩)
      | (refine SB.on (i:=12) I (sK 0 au I I I I I sB) (.inl dC) ?_; rintro _ _ _ ⟨rfl,rfl⟩; refine SX.u (i:=13) I kD (aS I) dC ?_)
      | refine zd9 7 11 kD ?_ ?_
      | refine zd8 11 kD ?_
      | refine zd8 12 kD ?_
      | refine zd8 7 kD ?_
      | (refine SX.nil kD ?_; exact za9 (b16,g6,r6) sB I I ⟨hle6,hcr6⟩))
    rintro ⟨b16,g6,r6⟩ ⟨hle6,hcr6⟩;obtain ⟨ri2,rd2,rp2,rn2,rk2⟩:=r6;obtain ⟨f3,f4,hs2⟩:=hcr6;dsimp only at hle6 f3 f4 hs2 ⊢;have hd1:lL l x1=rd1:=by unfold lL; rw[f2]
    have hd2:lL l x2=rd2:=by unfold lL; rw[f4]
    rw[hd1,hd2] at hd21 hdm1;have hs1':SlA encSide g6 (.slice rp1 rn1 rk1) (iz l x1):=za5 hs1 hle6;have hs2':SlA encSide g6 (.slice rp2 rn2 rk2) (iz l x2):=hs2;have hpv6:=za5 hpv5 hle6;have hle46:=hle5.trans hle6;refine sQ<|rZ<|lU (fA aq I zT3 I)<|lK (qL (v:=vi rd1) iT3 I<|cO 1 I I)<|lU (fA aq I zT3 I)<|lK (qL (v:=vi rd2) iT3 I<|cO 0 I I)<|lU (nQ I I)<|tZ<|iP I (fun hdd=>?_) (fun hdd=>?_)
    ·rw[zg4<|hd21 hdd];exact rZ<|lK (qV 5 aw ah I I I)<|lU (za3 I buildZ46)<|oZ (sK 3 ah I I I I I sB)<|oZ (sK 2 bC I I I I I sB)<|aT I<|rE<|tR<|bR<|tR<|tR<|bR<|tR<|ST.retCCT 3 2 s (.inl I) results73 I I I aw ah fm bC I I I I uR ⟨I,hle03.trans<|hle4.trans hle46,_,_,_,_,I,hv4.mono hle46,fun h=>by cases h⟩
    ·have hdd2:=hdm1<|Decidable.not_not.1 hdd;have hpl2:e.pairs.length<1099511627776:=oM;refine kP<|tN<|sQ<|dW [] [(0,2),(1,1),(2,2),(3,1),(5,2),(6,1),(7,2),(8,1),(4,0),(9,0),(10,0),(11,2)] ze6 kR<|pU I (fA aq I aJ I)<|pK I (qL (v:=.slice rp1 rn1 rk1) aX I<|cO 1 I I)<|pU I (fA aU I jd I)<|pK I (qL (v:=.slice pq e.pairs.length pc) lk I<|cO 4 I I)<|pU I (fA aq I aJ I)<|pK I (qL (v:=.slice rp2 rn2 rk2) aX I<|cO 0 I I)<|pU I (fA aU I jd I)<|pK I (qL (v:=.slice pq e.pairs.length pc) lk I<|cO 4 I I)<|SP.o I (cL call115 I<|gi E g6 _ _ _ (iz l x1) e.pairs hs1' hl1 hpv6 hpl2) dC (.inr iR) ?_;rintro v137 g7 _ ⟨rfl,hle7,hr7⟩;refine SP.o rfl (cL call115 rfl<|gi E g7 _ _ _ (iz l x2) e.pairs (za5 hs2' hle7) hl2 (za5 hpv6 hle7) hpl2) dC (.inr (by rintro v142 g8 _ ⟨rfl,hle8,hr8⟩; exact⟨by exact Le.trans (by assumption) (by assumption),(by exact .refl _)⟩)) ?_;rintro v142 g8 _ ⟨rfl,hle8,hr8⟩;have hle68:=hle7.trans hle8;refine SP.o I (cL call76 I<|jW E g8 _ _ _ _ _ (za5 hr7 hle8) hr8 (by rw[ze9]; exact hl1) (by rw[ze9]; exact hl2)) dC (.inr iR) ?_;rintro _ _ _ ⟨rfl,rfl,rfl⟩;rw[← hal12];refine pU I (SU.not I)<|pN<|tN ?_;refine iQ I (fun hq=>?_) (fun hq=>?_)
     ·have hq2:al=false:=by simpa using hq
      rw[hq2,Bool.and_false] at hak1;exact rG<|lA I<|nL<|bN<|tN<|rG<|lM I<|yD I<|lA I<|nL<|dR (.cons _<|.cons _<|.refl _)<|gA (k3+1,g8) ⟨I,I,I,I,I,(by rw[hak1]; rfl),rfl,trivial⟩ rfl rfl ⟨by dsimp only; omega,hle4.trans<|hle46.trans hle68,hdd2⟩ (by dsimp only; omega)
     ·have hq2:al=true:=by simpa using hq
      rw[hq2,Bool.and_true] at hak1;exact kP<|bN<|tN<|rG<|lM I<|yD I<|lA I<|nL<|dR (.cons _<|.cons _<|.refl _)<|gA (k3+1,g8) ⟨I,I,I,I,I,(by rw[hak1]; rfl),rfl,trivial⟩ rfl rfl ⟨by dsimp only; omega,hle4.trans<|hle46.trans hle68,hdd2⟩ (by dsimp only; omega)
   ·have hkk3:e.pairs.take k3=e.pairs:=tL oM;rw[hkk3] at hdm ⊢;rw[hdm,zg3 Bool.false_ne_true];have hv4:=hv3.mono hle4;have hle04:=hle03.trans hle4;cases hall:e.pairs.all (gY l e.pairs) with
    | false =>
     have e33:(if false=true then (0:Int) else 33)=33:=rfl;rw[e33];exact xI<|tX<|tX<|bX<|tN<|sQ<|sW I<|lU (nQ I I)<|tZ<|za2 I<|rZ<|lK (qV 3 aw ah I I I)<|lU (za3 I buildZ46)<|lM I<|oZ (sK 1 ah I I I I I sB)<|oZ (sK 0 bC I I I I I sB)<|aT I<|rE<|tR<|ST.retCCT 1 0 s (.inl I) results73 I I I aw ah fm bC I I I I uR ⟨I,hle04,_,_,_,_,I,hv4,fun h=>by cases h⟩
    | true =>
    have e00:(if true=true then (0:Int) else 33)=0:=rfl;rw[e00,zg4 rfl];have hkl3:(e.pairs.map Prod.snd).length<1099511627776:=by rw[ze9]; omega
    have hpl2:e.pairs.length<1099511627776:=oM;have hpv4:=za5 hpv3 hle4;have hsg4:dQ g4 (.slice qg (e.pairs.map Prod.snd).length dg) (e.pairs.map Prod.snd):=za5 hsg3 hle4;have hRf:=ft hf<|e.pairs.map Prod.snd;have hRs:∀ x∈dw l (e.pairs.map Prod.snd),x.sides.length<1099511627776:=fun x hx=>hRf.2 x hx;have hIl:((am l).map fX).length<1099511627776:=by rw[ze9]; exact (bP hf).1
    have hRo:fD l e=(dw l<|e.pairs.map Prod.snd).map (zy<|byF e.pairs):=rfl;rw[hRo];generalize hRR:dw l (e.pairs.map Prod.snd)=R at *;refine xI<|tX<|tX<|bX<|tN<|sQ<|sW I<|lU (nQ I I)<|tZ<|za1 I<|kP<|tN<|rZ<|lK (qV 3 aw ah I I I)<|lM I<|lW (cL call112 I<|j7 E g4 _ _ _ l (e.pairs.map Prod.snd) hv4 hf hsg4 hkl3) ?_;rintro _ _ _ ⟨rfl,u5,rs5,rfl,hall5,rfl⟩;rw[hRR] at hall5;refine zd4 fun ⟨w0,hw0⟩=>?_;obtain ⟨q5,d5,rfl⟩:=ag (i:=0) hw0 rfl;have hbq:0<rs5.length→based (.slice q5 rs5.length d5)=true:=fun h=>(by obtain ⟨b0,c0,he⟩:=aO (i:=0) hw0 rfl h; rw[he]; rfl);clear hw0 w0;refine bW (aL zl5) fun b18=>?_;refine oZ (sK 0 ah I I I I I sB) ?_;refine tZ<|sQ<|rZ<|aT I<|bK ?_;have hlr5:=hall5.length;have hRl:=hRf.1;refine oP (ι:=Nat×PH×List Rc) (fun i=>[(2,pp b2 0),(3,pp b3 0),(4,pp b4 0),(5,pp b5 0),(18,pp b18 0),(19,vi i.1)]) (fun i=>i.2.1)
     (fun i=>pt b18 (.cells #[.slice q5 rs5.length d5] 29 (0,0))::rowA encCell 53 (.slice q5 rs5.length d5) i.2.2::pt b5 (.cells #[.slice none 0 0,vb false] 46 (0,0))::pt b4 (.cells #[.slice none 0 0] 29 (0,0))::pt b3 (.cells (edV e (.slice sp e.sides.length sc)<|.slice pq e.pairs.length pc) 35 (0,0))::pt b2 (.cells #[.slice p l.length c] 29 (0,0))::s)
     (fun i=>i.1≤R.length∧Le g4 i.2.1∧aA (ar i.2.1) ((R.take i.1).map (zy<|byF e.pairs)++R.drop i.1) i.2.2) (fun i=>R.length - i.1) (0,g4,rs5) sB rfl rfl ⟨zf9 _,zb9 _,hall5⟩ ?_
    rintro ⟨k5,g5,ds⟩ ⟨hk5,hle5,hds⟩;dsimp only at hk5 hle5 hds ⊢;have hdl:=hds.length;rw[ze8,ze9,ze7,zf3] at hdl;refine sQ<|sW I<|lU (fA bM I bt I)<|lK (qL (v:=.slice q5 rs5.length d5) de I<|cO 0 I I)<|lU (eN aI I)<|yL I<|tZ<|iP I (fun hlt5=>?_) (fun hlt5=>?_)
    ·have hkR:k5<R.length:=oM;have hkd:k5<ds.length:=oM;have hb5:=hbq oM;have hgx:ds[((k5:Nat):Int).toNat]?=some ds[k5]:=gE hkd;have hcr:=hds.get (BO (zy (byF e.pairs)) hkR) (gE hkd);have hnx:=Ah (zy (byF e.pairs)) hkR;have hxs:=hRs _ (gM hkR);have hpv5:=za5 hpv4 hle5;generalize ds[k5]=x at *;generalize R[k5]=cx at *;obtain ⟨xi,xd,xp,xn,xc⟩:=x;obtain ⟨e1,e2,hxsl⟩:=hcr;dsimp only at e1 e2 hxsl;subst e1 e2;refine kP (tN (sQ (bK ?_)));refine dW [14] [(0,2),(1,1),(2,2),(3,2),(4,1),(5,2),(6,2),(7,2),(8,1),(9,2),(10,1),(11,0),(12,2),(13,2),(14,0)] ze6 kR<|pU I (fA bM I bt I) (pK I (qL (v:=.slice q5 rs5.length d5) de I (cO 0 I I)) (yM I (pU I (fA bM I bt I) (pK I (qL (v:=.slice q5 rs5.length d5) de I (cO 0 I I)) (yM I (pU I (iA aI au I I hb5 oM sL) (pU I (fC aq I aJ I hb5) (pK I (aZ (e:=encCell) (o:=2) aX I (zb7 1 I) hgx I) (pU I (fA aU I jd I) (pK I (qL (v:=.slice pq e.pairs.length pc) lk I (cO 4 I I)) (SP.o I (cL call115 I (gi E g5 _ _ _ cx.sides e.pairs hxsl hxs hpv5 hpl2)) dC (.inr iR) ?_)))))))))));rintro v171 g6 _ ⟨rfl,hle6,hr6⟩;obtain ⟨q6,d6,rfl⟩:=za4 hr6;refine pU I (iA aI au I I hb5 oM sL) (pU I (fC aq I aJ I hb5) (SP.on I (SO.partA (e:=encCell) (a:=(⟨cx.id,cx.dim,⟨xp,xn,xc⟩⟩:Rc)) (j:=((k5:Nat):Int).toNat) (o:=2) 1 ⟨cx.id,cx.dim,⟨q6,(cx.sides.map (dY (byF e.pairs))).length,d6⟩⟩ aJ I I I hgx I I dC I) (.inl dC) ?_));rintro _ _ _ ⟨rfl,rfl⟩;refine pN (bN (tN (rG (lM I (yD I (lA I (nL ?_)))))));exact gA (k5+1,g6,ds.set k5 ⟨cx.id,cx.dim,⟨q6,(cx.sides.map (dY (byF e.pairs))).length,d6⟩⟩) sB I I ⟨by dsimp only; omega,hle5.trans hle6,by
      dsimp only;rw[hnx];exact aA.set (R:=ar g6) (a:=zy (byF e.pairs) cx) ⟨I,I,hr6⟩ k5 (hds.mono fun _ _=>ar.mono hle6)⟩ (by dsimp only; omega)
    ·have hkk5:R.take k5=R:=tL oM;have hkd5:R.drop k5=[]:=List.drop_eq_nil_of_le oM;rw[hkk5,hkd5,zc7] at hds;have hdl2:ds.length=rs5.length:=oM;rw[← hdl2];refine xI (tX<|tX<|bX<|tN<|sQ<|cP (zk4 _ _ _)<|fS fun g6 hle6 hs6=>?_);have hc6:ao g6 (.slice q5 ds.length d5) (R.map<|zy<|byF e.pairs):=⟨ds,hs6,hds.mono fun _ _=>ar.mono hle6⟩;have hle56:=hle5.trans hle6;have hv6:=hv4.mono hle56;refine rG<|lK (qV 4 aw ah I I I)<|lW (cL call111 I<|fE E g6 _ _ l hv6 hf) ?_;rintro _ g7 _ ⟨rfl,hle7,iv,rfl,him7⟩;obtain ⟨q7,n7,d7,rfl⟩:=him7.form;refine bW (aL zl4) fun b20=>oZ (sK 0 kr I I I I I sB)<|tZ<|sQ<|rZ<|aT I<|bK ?_;have hle67:=hle56.trans hle7;have hpv7:=za5 hpv4 hle67;have hc7:=hc6.mono hle7;refine oP (ι:=Nat×PH×Option Addr×Nat×Nat) (fun i=>[(2,pp b2 0),(3,pp b3 0),(4,pp b4 0),(5,pp b5 0),(18,pp b18 0),(20,pp b20 0),(21,vi i.1)]) (fun i=>i.2.1)
      (fun i=>pt b20 (.cells #[.slice i.2.2.1 i.2.2.2.1 i.2.2.2.2] 44 (0,0))::pt b18 (.cells #[.slice q5 ds.length d5] 29 (0,0))::pt b5 (.cells #[.slice none 0 0,vb false] 46 (0,0))::pt b4 (.cells #[.slice none 0 0] 29 (0,0))::pt b3 (.cells (edV e (.slice sp e.sides.length sc)<|.slice pq e.pairs.length pc) 35 (0,0))::pt b2 (.cells #[.slice p l.length c] 29 (0,0))::s)
      (fun i=>i.1≤e.pairs.length∧Le g7 i.2.1∧Ims i.2.1 (.slice i.2.2.1 i.2.2.2.1 i.2.2.2.2) (fg (e.pairs.take i.1)<|(am l).map fX)) (fun i=>e.pairs.length - i.1) (0,g7,q7,n7,d7) sB rfl rfl ⟨zf9 _,zb9 _,him7⟩ ?_
     rintro ⟨k8,g8,q8,n8,d8⟩ ⟨hk8,hle8,him8⟩;dsimp only at hk8 hle8 him8 ⊢;refine sQ<|sW I<|lU (fA aU I jd I)<|lK (qL (v:=.slice pq e.pairs.length pc) lk I<|cO 4 I I)<|lU (eN je I)<|yL I<|tZ<|iP I (fun hlt8=>?_) (fun hlt8=>?_)
     ·have hkl:k8<e.pairs.length:=oM;have hb1:=za6 hpv oM;have hpv8:=za5 hpv7 hle8;have hgk:e.pairs[((k8:Nat):Int).toNat]?=some e.pairs[k8]:=gE hkl;have hsn:=su hkl<|(am l).map fX;generalize e.pairs[k8]=x at *;obtain ⟨x1,x2⟩:=x;dsimp only at hsn;refine kP<|tN<|sQ<|bK<|dW [16] [(0,1),(1,2),(2,1),(3,2),(4,2),(5,2),(6,1),(7,2),(8,1),(9,2),(10,2),(11,2),(12,1),(13,0),(14,0),(15,0),(16,0)] ze6 kR<|pK I (qV 0 isAgg44 kr I I I)<|pU I (fA aU I jd I)<|pK I (qL (v:=.slice pq e.pairs.length pc) lk I<|cO 4 I I)<|yM I<|pU I (iA je iV I I hb1 oM sL)<|pU I (SU.indexAddrC gC zT3 I hb1 I dC dC)<|pK I (aZ (e:=dJ) (o:=1) (u:=vi x2) iT3 I (za7 hpv8) hgk I)<|pU I (fA aU I jd I)<|pK I (qL (v:=.slice pq e.pairs.length pc) lk I<|cO 4 I I)<|yM I<|pU I (iA je iV I I hb1 oM sL)<|pU I (SU.indexAddrC gC zT3 I hb1 I dC dC)<|pK I (aZ (e:=dJ) (o:=0) (u:=vi x1) iT3 I (za7 hpv8) hgk I)<|SP.o I (cL call113 I<|dZ E g8 _ x1 1 dC dC) dC (.inr iR) ?_;rintro _ g9 _ ⟨rfl,rfl,hle9⟩;refine SP.o I (bS sty72 I I I (ae ⟨I,trivial⟩) dC) dC (.inr iR) ?_;rintro _ _ _ ⟨b197,rfl,rfl,rfl⟩;refine SP.freeze fun g10 hle10 hb10=>?_;have hch:SlA ci g10 (.slice (some ⟨b197,0,none⟩) 1 1) [(x1,1)]:=SlA.lit hb10 rfl rfl;have hle810:=hle9.trans hle10;refine SP.o I (cL call114 I<|ir E g10 _ _ _ _ x2 _ (him8.mono hle810) (by rw[tI]; exact hIl) hch) dC (.inr (by rintro _ g11 _ ⟨rfl,hle11,u11,rfl,him11⟩; exact⟨by exact Le.trans (by assumption) (by assumption),(by exact .refl _)⟩)) ?_;rintro _ g11 _ ⟨rfl,hle11,u11,rfl,him11⟩;obtain ⟨q11,n11,d11,rfl⟩:=him11.form;refine SP.on I (sK 0 kr I I I I I sB) (.inl dC) ?_;rintro _ _ _ ⟨rfl,rfl⟩;refine pN<|bN<|tN<|rG<|lM I<|yD I<|lA I<|nL ?_;exact gA (k8+1,g11,q11,n11,d11) sB I I ⟨by dsimp only; omega,hle8.trans<|hle810.trans hle11,by dsimp only; rw[hsn]; exact him11⟩ (by dsimp only; omega)
     ·have hkk8:e.pairs.take k8=e.pairs:=tL oM;rw[hkk8] at him8;have hc8:=hc7.mono hle8;refine xI<|tX<|tX<|bX<|tN<|sQ ?_;refine SC.drawX [3,4] ze6 kR ?_;refine SX.q (i:=0) I kR (qV 1 aw ah I I I) dC ?_
      repeat' (first
       | (refine SB.o (i:=1) rfl (SQ.sof<|qV 0 isAgg44 kr rfl rfl rfl) dC (.inr (by rintro _ _ _ ⟨rfl,rfl,rfl⟩; exact⟨by exact zb9 _,(by exact .refl _)⟩)) ?_; rintro _ _ _ ⟨rfl,rfl,rfl⟩; refine SX.u (i:=2) I kD (za3 I<|buildS46 _ _ _) dC ?_)
       | (refine SB.ob (i:=1) I (SQ.sof<|qV 0 isAgg44 kr I I I) dC kD ?_; rintro _ _ _ ⟨rfl,rfl,rfl⟩; refine SX.u (i:=2) I kD (za3 I<|buildS46 _ _ _) dC ?_)
       | (refine SB.on (i:=3) I (sK 3 ah I I I I I sB) (.inl dC) ?_; rintro _ _ _ ⟨rfl,rfl⟩)
       | (refine SB.on (i:=4) I (sK 2 bC I I I I I sB) (.inl dC) ?_; rintro _ _ _ ⟨rfl,rfl⟩; refine SX.u (i:=5) I kD (aS I) dC ?_)
       | refine zd9 1 3 kD ?_ ?_
       | refine zd8 3 kD ?_
       | refine zd8 4 kD ?_
       | refine zd8 1 kD ?_
       | (refine SX.nil kD ?_; refine tN ?_; refine rE ?_; exact ST.retCCT 3 2 s (.inl I) results73 I I I aw ah fm bC I I I I uR ⟨I,hle04.trans (hle67.trans hle8),_,_,_,_,I,hc8,fun _=>him8⟩))
def jt (fv:Value)(e:Ed)(A:List Cl)(code:Int)(B:List Cl)(img:Int→List Tm)(bk:Bool):Prop :=
 ∀ (E:World) (g:PH) (s:Own) (bx mb ms:Nat) (u v:Value) (rs:List Rc),ao g u A→aA fZ A rs→EdR g v e →
  dA Tryz.prog E fv [pp bx 0,v] g (edP bx u mb ms false::mp mb (rs.map ak)::mp ms []::(dM A rs++s)) (fun r g' s'=>Le g g'∧r=vi code∧(if code=0 then ∃ rs' ts,aA (ar g') B rs'∧zo ts∧(ts.map Prod.fst).Nodup∧(∀ k,qQ ts k=img k)∧s'=edP bx u mb ms bk::mp mb (rs'.map ak)::mp ms (gO ts)::(dv ts++s) else ∃ h,s'=h++s))
def Ce (k:Int):List Tm:=[(k,1)]
theorem pD.gen {fv:Value}{e:Ed}{A:List Cl}{code:Int}{B:List Cl}{bk:Bool}(h:pD fv e A code B bk):jt fv e A code B Ce bk:=fun E g s bx mb ms u v rs hu hO hv=>by
 obtain ⟨n,cap,q1,q2,q3⟩:=h E g s bx mb ms u v rs hu hO hv;refine⟨n,cap,q1,q2,q3.mono ?_⟩;rintro r g' s' ⟨h1,h2,h3⟩;refine⟨h1,h2,?_⟩;by_cases h0:code=0
 ·rw[zg4 h0] at h3 ⊢;obtain ⟨rs',h4,rfl⟩:=h3;exact⟨rs',[],h4,fun t ht=>by simp at ht,List.nodup_nil,fun k=>I,I⟩
 ·rw[zg3 h0] at h3 ⊢;exact h3
def jc (g:PH)(code:Int)(D:List Cl)(ims:List (Int×List Tm))(bk:Bool)(r:Value)(g':PH):Prop:=∃ u p n c b,r = .tuple #[.agg #[u],.agg #[.slice p n c,vb b],vi code]∧gJ (mns g' g) u D∧(code=0→b=bk∧Ims g' (.slice p n c) ims)∧(code≠0→b=false∧Ims g' (.slice p n c) [])
theorem jc.old {g:PH}{code:Int}{D:List Cl}{ims:List (Int×List Tm)}{bk:Bool}{r:Value}{g':PH}(h:jc g code D ims bk r g'):fj code D ims bk r g':=by
 obtain ⟨u,p,n,c,b,h1,h2,h3⟩:=h;exact⟨u,p,n,c,b,h1,h2.cells<|jE _ _,h3⟩
theorem gJ.nil (g:PH):gJ g (.slice none 0 0) []:=⟨[],RK.nil _ _ g,trivial⟩
theorem po (E:World)(g:PH)(s:Own)(v ev:Value)(l:List Cl)(e:Ed)(hv:ao g v l)(hf:bo l)(he:EdR g ev e)(ims:List (Int×List Tm))(bk:Bool)(hbad:dS ln e.kind=none∨(aN l).2≠0) :
  Ctr Tryz.prog E 16 #[.agg #[v],ev] g s (fun r g' s'=>s=s'∧Le g g'∧jc g 1 [] ims bk r g'):=by
 obtain ⟨z,hz⟩:=Tryz.mtyKinds;obtain ⟨sv,pv,rfl,hsv,hpv⟩:=he;obtain ⟨sp,sc,rfl⟩:=za4 hsv;obtain ⟨pq,pc,rfl⟩:=za4 hpv;obtain ⟨p,c,rfl⟩:=hv.form;refine zb2 (args:=[.agg #[.slice p l.length c],.agg #[vi e.kind,vi e.cell,vi e.dim,vi e.new,vi e.other,.slice sp e.sides.length sc,.slice pq e.pairs.length pc]]) func16 I ntmps16 (bE I) ?_;cases hg:dS ln e.kind with
 | none =>
  refine rZ (bW (bO I) fun b2=>?_);refine bW (bO I) fun b3=>bW (aL zl5) fun b4=>bW (aL zl7) fun b5=>aT I<|sQ<|dW [] [(1,2),(2,1),(0,0),(3,0),(4,2),(5,2),(6,2),(7,2),(8,2)] ze6 kR<|pU I (fA aU I zT3 I)<|pK I (qL iT3 I<|cO 2 I I)<|SP.o I (cL call45 I<|lE E g _) dC (.inr iR) ?_;rintro _ g1 _ ⟨rfl,hle1,bq,rfl,hk⟩;refine oQ I (SQ.eq (v':=.tuple #[z,vb false]) (SQ.lookupOk hz I I<|cH.known hk) (by rw[hg]; rfl)) dC (.inr ⟨by assumption,(by exact .refl _)⟩) ?_;refine yM I<|pU I (xT I I)<|pU I (xT I I)<|pU I (aS I)<|pU I (aS I)<|pN<|tN<|sQ<|sW I<|lU (SU.not I)<|lM I<|yA I<|yA I<|yA I<|yP I<|tZ<|za2 I<|rZ<|lU (za3 I buildE29)<|lU (za3 I buildZ46)<|oZ (sK 1 ah I I I I I sB) ?_;refine oZ (sK 0 bC I I I I I sB) ?_;refine aT I<|rE<|tR ?_;exact ST.retCCT 1 0 s (.inl I) results16 I I I aw ah fm bC I I I I uR ⟨I,hle1,_,_,_,_,_,I,gJ.nil _,(fun h=>by cases h),fun _=>⟨I,Ims.nil _⟩⟩
 | some fv =>
  have hc:decide ((aN l).2=0)=false:=zg1 (by
   rcases hbad with h | h
   ·rw[hg] at h; cases h
   ·exact h)
  refine rZ (bW (bO I) fun b2=>?_);refine bW (bO I) fun b3=>bW (aL zl5) fun b4=>bW (aL zl7) fun b5=>aT I<|sQ<|dW [] [(1,2),(2,1),(0,0),(3,0),(4,2),(5,2),(6,2),(7,2),(8,2)] ze6 kR<|pU I (fA aU I zT3 I)<|pK I (qL iT3 I<|cO 2 I I)<|SP.o I (cL call45 I<|lE E g _) dC (.inr iR) ?_;rintro _ g1 _ ⟨rfl,hle1,bq,rfl,hk⟩;refine oQ I (SQ.eq (v':=.tuple #[fv,vb true]) (SQ.lookupOk hz I I<|cH.known hk) (by rw[hg]; rfl)) dC (.inr ⟨by assumption,(by exact .refl _)⟩) ?_;refine yM I<|pU I (xT I I)<|pU I (xT I I)<|pU I (aS I)<|pU I (aS I)<|pN<|tN<|sQ<|sW I<|lU (SU.not I)<|lM I<|SL.gq (gT I I I dC) (qV 3 aw ah I I I) dC<|ze4 (gT I I I dC) (cL call46 I<|kO E g1 _ _ l (hv.mono hle1) hf false hc) dC ?_;rintro _ _ _ ⟨rfl,rfl,rfl⟩;refine lY I I I (SU.not I)<|yF I<|tZ<|za2 I<|rZ<|lU (za3 I buildE29)<|lU (za3 I buildZ46)<|oZ (sK 1 ah I I I I I sB) ?_;refine oZ (sK 0 bC I I I I I sB) ?_;refine aT I<|rE<|tR ?_;exact ST.retCCT 1 0 s (.inl I) results16 I I I aw ah fm bC I I I I uR ⟨I,hle1,_,_,_,_,_,I,gJ.nil _,(fun h=>by cases h),fun _=>⟨I,Ims.nil _⟩⟩
theorem wH (E:World)(g:PH)(s:Own)(v ev:Value)(l:List Cl)(e:Ed)(hv:ao g v l)(hf:bo l)(he:EdR g ev e)(hr:(aN l).2=0)(fv:Value)(code:Int)(B:List Cl)(bk:Bool)(hg:dS ln e.kind=some fv)(img:Int→List Tm)(hrun:jt fv e (aa l) code B img bk)(hB:code=0→bo B∧(B.map Cl.id).Nodup) :
  Ctr Tryz.prog E 16 #[.agg #[v],ev] g s (fun r g' s'=>s=s'∧Le g g'∧jc g (aW code B).1 (aW code B).2 ((if bk then aa B else aa l).map fun c=>(c.id,img c.id)) bk r g'):=by
 obtain ⟨z,hz⟩:=Tryz.mtyKinds;have he0:=he;obtain ⟨sv,pv,rfl,hsv,hpv⟩:=he;obtain ⟨sp,sc,rfl⟩:=za4 hsv;obtain ⟨pq,pc,rfl⟩:=za4 hpv;obtain ⟨p,c,rfl⟩:=hv.form;have hc:decide ((aN l).2=0)=true:=zg2 hr;have hnd:((aa l).map Cl.id).Nodup:=by
  rw[List.Nodup,zk8];exact (wQ hr).asc.imp fun h=>by omega
 have hAf:=bJ hf;refine zb2 (args:=[.agg #[.slice p l.length c],.agg #[vi e.kind,vi e.cell,vi e.dim,vi e.new,vi e.other,.slice sp e.sides.length sc,.slice pq e.pairs.length pc]]) func16 I ntmps16 (bE I)<|rZ (bW (bO I) fun b2=>?_);refine bW (bO I) fun b3=>bW (aL zl5) fun b4=>bW (aL zl7) fun b5=>aT I<|sQ<|dW [] [(1,2),(2,1),(0,0),(3,0),(4,2),(5,2),(6,2),(7,2),(8,2)] ze6 kR<|pU I (fA aU I zT3 I)<|pK I (qL iT3 I<|cO 2 I I)<|SP.o I (cL call45 I<|lE E g _) dC (.inr iR) ?_;rintro _ g1 _ ⟨rfl,hle1,bq,rfl,hk⟩;refine oQ I (SQ.eq (v':=.tuple #[fv,vb true]) (SQ.lookupOk hz I I<|cH.known hk) (by rw[hg]; rfl)) dC (.inr ⟨by assumption,(by exact .refl _)⟩) ?_;refine yM I<|pU I (xT I I)<|pU I (xT I I)<|pU I (aS I)<|pU I (aS I)<|pN<|tN<|sQ<|sW I<|lU (SU.not I)<|lM I<|SL.gq (gT I I I dC) (qV 3 aw ah I I I) dC<|ze4 (gT I I I dC) (cL call46 I<|kO E g1 _ _ l (hv.mono hle1) hf true hc) dC ?_;rintro _ _ _ ⟨rfl,rfl,rfl⟩;refine lY I I I (SU.not I)<|yF I<|tZ<|za1 I<|kP<|tN<|rZ<|lK (qV 3 aw ah I I I)<|lW (cL call47 I<|z8 E g1 _ _ l (hv.mono hle1) hf hnd) ?_;rintro _ g2 _ ⟨hle2,bx,u,mb,ms,rs,rfl,hu,hO,rfl⟩;refine aT I<|sW I<|lM I<|lK (qV ((dM (aa l) rs).length+2+3) jh eW I (by exact (rz (dM (aa l) rs) _ 2).trans I) I) ?_;refine lW (SO.callV I I<|hrun E g2 _ bx mb ms u _ rs hu hO<|he0.mono<|hle1.trans hle2) ?_;rintro _ g3 _ ⟨hle3,rfl,hcase⟩;by_cases hc0:code=0
 ·obtain ⟨hBf,hBn⟩:=hB hc0;subst hc0;rw[zg4 rfl] at hcase;obtain ⟨rs',ts,hall,hts,htn,himg,rfl⟩:=hcase;refine SL.to (g':=g3) (s':=edP bx u mb ms bk::mp mb (rs'.map ak)::mp ms (gO ts)::pt b5 (.cells #[.slice none 0 0,vb false] 46 (0,0))::pt b4 (.cells #[.slice none 0 0] 29 (0,0))::pt b3 (.cells #[vi e.kind,vi e.cell,vi e.dim,vi e.new,vi e.other,.slice sp e.sides.length sc,.slice pq e.pairs.length pc] 35 (0,0))::pt b2 (.cells #[.slice p l.length c] 29 (0,0))::(dv ts++s)) (fun w hw=>hw.perm (((List.perm_append_comm_assoc (dv ts) [pt b5<|.cells #[.slice none 0 0,vb false] 46 (0,0),pt b4<|.cells #[.slice none 0 0] 29 (0,0),pt b3<|.cells #[vi e.kind,vi e.cell,vi e.dim,vi e.new,vi e.other,.slice sp e.sides.length sc,.slice pq e.pairs.length pc] 35 (0,0),pt b2<|.cells #[.slice p l.length c] 29 (0,0)] s).cons _).cons _ |>.cons _)) ?_;have hcB:=bJ hBf;have hout:aW 0 B=if (aN<|aa B).2≠0 then ((aN<|aa B).2,[]) else (0,aa B):=rfl
  rw[hout];refine aT I (rZ<|bW (aL zl5) fun b11=>?_);refine tZ (sQ<|sW I<|yE I<|tZ<|za2 I<|sQ<|cP (zk5 (l₁:=[pt b11<|.cells #[.slice none 0 0] 29 (0,0),edP bx u mb ms bk]))<|SC.freezeMap fun g4 hle4 hm4=>?_);refine rG<|lM I<|lW (cL call48 I<|vP E g4 _ bx mb ms u bk B rs' (hall.mono fun _ _=>ar.mono hle4) hBn hBf hm4 1 I) ?_;rintro _ g5 _ ⟨rfl,hle5,u5,rfl,hn5⟩;have hu5:=hn5.cells<|jE _ _;obtain ⟨p5,c5,rfl⟩:=hu5.form;refine oZ (sK 0 ah I I I I I sB)<|tZ<|rG<|lK (qV 0 aw ah I I I)<|lW (cL call49 I<|pl E g5 _ _ (aa B) hu5 hcB) ?_;rintro _ _ _ ⟨rfl,rfl,rfl⟩;refine lM I<|yX I<|yX I<|aT I<|sQ<|sW I<|lU (nQ I I)<|tZ<|iP I (fun h2=>?_) (fun h2=>?_)
  ·have he2:(if (aN<|aa B).2≠0 then ((aN<|aa B).2,[]) else ((0:Int),aa B))=((aN<|aa B).2,[]):=zg4 h2;rw[he2];exact rZ<|lU (za3 I buildE29)<|lU (za3 I buildZ46)<|lM I<|oZ (sK 4 ah I I I I I sB)<|oZ (sK 3 bC I I I I I sB)<|aT I<|rE<|tR<|ST.retCCT 4 3 s (.inl I) results16 I I I aw ah fm bC I I I I (.cons _<|.cons _<|.cons _<|.cons _<|.cons _<|.cons _<|.cons _<|List.sublist_append_right _ _) ⟨I,hle1.trans<|hle2.trans<|hle3.trans<|hle4.trans hle5,_,_,_,_,_,I,gJ.nil _,fun h=>absurd h h2,fun _=>⟨I,Ims.nil _⟩⟩
  ·have he2:(if (aN<|aa B).2≠0 then ((aN<|aa B).2,[]) else ((0:Int),aa B))=(0,aa B):=zg3 h2;rw[he2];refine kP<|tN<|sQ<|SC.drawT 1 [4,5] [(0,1),(1,2),(2,1),(3,0),(4,0),(5,0),(6,2)] ze6 kR<|pK rfl (qV 0 aw ah rfl rfl rfl)<|yM rfl<|pK rfl (qV 0 aw ah rfl rfl rfl)<|SP.o rfl (cL call50 rfl<|xN E g5 [pt b11<|.cells #[.slice p5 (aa B).length c5] 29 (0,0),edP bx u mb ms bk,mp ms<|gO ts,pt b5<|.cells #[.slice none 0 0,vb false] 46 (0,0),pt b4<|.cells #[.slice none 0 0] 29 (0,0),pt b3<|.cells #[vi e.kind,vi e.cell,vi e.dim,vi e.new,vi e.other,.slice sp e.sides.length sc,.slice pq e.pairs.length pc] 35 (0,0),pt b2<|.cells #[.slice p l.length c] 29 (0,0)] s bx mb ms u _ bk (aa l) (aa B) ts hts htn (hu.mono<|hle3.trans<|hle4.trans hle5) hu5 hAf.1 hcB.1 1 2 rfl rfl) dC (.inr (by rintro _ g6 _ ⟨rfl,hle6,iv,rfl,him⟩; exact⟨by assumption,(by exact .cons_cons _<|List.nil_sublist _)⟩)) ?_;rintro _ g6 _ ⟨rfl,hle6,iv,rfl,him⟩;obtain ⟨p6,n6,c6,rfl⟩:=him.form;refine SP.on I (sK 4 ah I I I I I sB) (.inl dC) ?_;rintro _ _ _ ⟨rfl,rfl⟩;refine SP.on I (sK 3 bC I I I I I sB) (.inl dC) ?_;rintro _ _ _ ⟨rfl,rfl⟩;refine pU I (aS I)<|pN<|tN<|rE ?_;exact ST.retCCT 4 3 s (.inl I) results16 I I I aw ah fm bC I I I I uR ⟨I,hle1.trans<|hle2.trans<|hle3.trans<|hle4.trans<|hle5.trans hle6,_,_,_,_,_,I,(hn5.mono<|mN<|hle1.trans<|hle2.trans<|hle3.trans hle4).mono<|mM hle6,fun _=>⟨I,by rw[show (fun c:Cl=>(c.id,img c.id))=fun c:Cl=>(c.id,qQ ts c.id) from funext fun c=>by rw[himg]]; exact him⟩,fun h=>absurd I h⟩
 ·rw[zg3 hc0] at hcase;obtain ⟨h,rfl⟩:=hcase;have hout:aW code B=(code,[]):=zg4 hc0;rw[hout];refine SL.drop (List.sublist_append_right _ _) (aT I<|rZ<|bW (aL zl5) fun b11=>?_);refine tZ<|sQ<|sW I<|yE I<|tZ<|iP I (fun h0=>?_) (fun h0=>?_)
  ·exact absurd h0 hc0
  ·refine kP<|tN<|sQ<|sW I<|lU (nQ I I)<|tZ<|iP I (fun h2=>?_) (fun h2=>?_)
   ·exact rZ<|lU (za3 I buildE29)<|lU (za3 I buildZ46)<|lM I<|oZ (sK 2 ah I I I I I sB)<|oZ (sK 1 bC I I I I I sB)<|aT I<|rE<|tR<|ST.retCCT 2 1 s (.inl I) results16 I I I aw ah fm bC I I I I uR ⟨I,hle1.trans<|hle2.trans hle3,_,_,_,_,_,I,gJ.nil _,fun h=>absurd h hc0,fun _=>⟨I,Ims.nil _⟩⟩
   ·exact absurd hc0 h2
set_option maxHeartbeats 1000000
theorem sV {l m:List Side}(h:l.Perm m)(hl:l.Pairwise fun a b=>a.cell≤b.cell)(hm:m.Pairwise fun a b=>a.cell≤b.cell):l.map Side.cell=m.map Side.cell:=by
 refine List.Perm.eq_of_pairwise (le:=fun a b:Int=>a≤b) (fun a b _ _ h1 h2=>by omega) ?_ ?_<|h.map _
 ·rw[zk8]; exact hl
 ·rw[zk8]; exact hm
def CaC (a b:Cl):Prop:=a.id=b.id∧a.dim=b.dim∧a.sides.Perm b.sides∧a.sides.map Side.cell=b.sides.map Side.cell
theorem s7:∀ {L M:List Cl},aA CaC L M→∀ k,(aB L k).map Cl.dim=(aB M k).map Cl.dim
 | [],[],_,_=>rfl
 | a::L,b::M,h,k=>by
  have ih:=s7 h.2 k;have h1:=h.1.1;have h2:=h.1.2.1;unfold aB at ih ⊢;rw[zi9,zi9,h1];cases hd:decide (b.id=k) with
  | true=>simp[h2]
  | false=>simpa using ih
 | [],_::_,h,_=>h.elim
 | _::_,[],h,_=>h.elim
theorem yz {L M:List Cl}(h:aA CaC L M)(k:Int):(aB L k).isSome=(aB M k).isSome:=by
 have h1:=ze5 Option.isSome<|s7 h k;simpa using h1
theorem CC {L M:List Cl}(h:aA CaC L M)(k:Int):((aB L k).getD bD).dim=((aB M k).getD bD).dim:=by
 have h1:=s7 h k;cases h2:aB L k <;> cases h3:aB M k <;> (try rfl)<;>rw[h2,h3] at h1 <;> simp at h1
 exact h1
theorem Cj {a b:Cl}(h:CaC a b)(i:Nat):a.sides[i]?.map Side.cell=b.sides[i]?.map Side.cell:=by
 have h1:=ze5 (fun l:List Int=>l[i]?) h.2.2.2;simpa using h1
theorem CL {L M:List Cl}(h:aA CaC L M){a b:Cl}(hab:CaC a b)(i:Nat):fY L a i=fY M b i:=by
 have h1:=Cj hab i;unfold fY;cases h2:a.sides[i]? with
 | none =>
  cases h3:b.sides[i]? with
  | none=>rfl
  | some y=>rw[h2,h3] at h1; simp at h1
 | some x =>
  cases h3:b.sides[i]? with
  | none=>rw[h2,h3] at h1; simp at h1
  | some y =>
   rw[h2,h3] at h1;have h4:x.cell=y.cell:=by simpa using h1
   show co L a i x=co M b i y;unfold co;rw[h4,yz h,CC h,hab.2.1,Cj hab<|i - 1]
theorem BV {L M:List Cl}(h:aA CaC L M){a b:Cl}(hab:CaC a b):cY L a=cY M b:=by
 have hl:a.sides.length=b.sides.length:=hab.2.2.1.length_eq;have h1:fl a=fl b:=by unfold fl; rw[hab.2.1]
 have h2:bh a=bh b:=by unfold bh; rw[hab.2.1,hl]
 have h3:(List.range a.sides.length).any (fY L a)=(List.range b.sides.length).any (fY M b):=by
  rw[hl,show fY L a=fY M b from funext fun i=>CL h hab i]
 have h4:a.sides.any cm=b.sides.any cm:=by
  rw[Bool.eq_iff_iff,zk2,zk2];exact⟨fun ⟨x,hx,hb⟩=>⟨x,hab.2.2.1.mem_iff.1 hx,hb⟩,fun ⟨x,hx,hb⟩=>⟨x,hab.2.2.1.mem_iff.2 hx,hb⟩⟩
 have h5:oa a.sides=oa b.sides:=ye<|hab.2.2.1.map Side.sign;unfold cY;rw[h1,h2,h3,h4,h5,hab.2.1]
theorem xB {L0 M0:List Cl}(h0:aA CaC L0 M0):∀ {L M:List Cl},aA CaC L M→∀ n,f8 L0 L n=f8 M0 M n
 | [],[],_,_=>rfl
 | a::L,b::M,h,n=>by
  unfold f8;rw[h.1.1,BV h0 h.1,xB h0 h.2]
 | [],_::_,h,_=>h.elim
 | _::_,[],h,_=>h.elim
theorem rJ {tl:List Cl}:∀ {l:List Cl} {n:Int} {p:Int×Int},f8 tl l n=some p→p.2≠0
 | [],_,_,h=>by cases h
 | x::r,n,p,h=>by
  unfold f8 at h;split at h
  ·cases h; exact (by decide:(20:Int)≠0)
  ·split at h
   ·rename_i h1; cases h; exact h1
   ·exact rJ h
theorem rS {α β α' β':Type}{R:α→β→Prop}{S:α'→β'→Prop}{f:α→α'}{k:β→β'}(hR:∀ a b,R a b→S (f a) (k b)):∀ {l:List α} {m:List β},aA R l m→aA S (l.map f) (m.map k)
 | [],[],_=>trivial
 | _::_,_::_,h=>⟨hR _ _ h.1,rS hR h.2⟩
 | [],_::_,h=>h.elim
 | _::_,[],h=>h.elim
theorem BM {a b:Cl}(h:ShC a b):CaC (fc a) (fc b):=by
 have hp:(fc a).sides.Perm (fc b).sides:=(jp a.sides).trans<|h.2.2.trans (jp b.sides).symm;exact⟨h.1,h.2.1,hp,sV hp (cD a.sides)<|cD b.sides⟩
theorem AE {B D:List Cl}(h:ShL B D)(hn:(B.map Cl.id).Nodup):aA CaC (aa B) (aa D):=by
 obtain ⟨l1,hp,ha⟩:=h;have h1:sortBy Cl.id B=sortBy Cl.id l1:=tE hp.symm hn;unfold aa;rw[h1];exact rS (R:=ShC) (S:=CaC) (fun a b h=>BM h)<|aA.sortBy (R:=ShC) (f:=Cl.id) (h:=Cl.id) (fun a b h=>h.1) ha
theorem AV:∀ {L M:List Cl},aA CaC L M→L.map Cl.id=M.map Cl.id
 | [],[],_=>rfl
 | a::L,b::M,h=>by rw[zg7,zg7,h.1.1,AV h.2]
 | [],_::_,h=>h.elim
 | _::_,[],h=>h.elim
theorem xg:∀ {L M:List Cl},aA CaC L M→(∀ c∈L,c.sides.Pairwise fun a b=>a.cell<b.cell)→L=M
 | [],[],_,_=>rfl
 | a::L,b::M,h,hl=>by
  rw[xg h.2 fun c hc=>hl c (by simp[hc])];obtain ⟨⟨h1,h2,h3,h4⟩,-⟩:=h;have ha:=hl a (by simp);have hb:b.sides.Pairwise fun a b=>a.cell<b.cell:=by
   have h5:(a.sides.map Side.cell).Pairwise fun a b=>a<b:=by rw[zk8]; exact ha
   rw[h4,zk8] at h5;exact h5
  have h6:a.sides=b.sides:=List.Perm.eq_of_pairwise (le:=fun a b:Side=>a.cell<b.cell) (fun a b _ _ h1 h2=>by omega) ha hb h3;congr 1;cases a; cases b;simp at h1 h2 h6;rw[h1,h2,h6]
 | [],_::_,h,_=>h.elim
 | _::_,[],h,_=>h.elim
theorem sh {B:List Cl}(hn:(B.map Cl.id).Nodup):(aa B).Pairwise fun a b=>a.id<b.id:=by
 have h1:((aa B).map Cl.id).Nodup:=by
  have:(aa B).map Cl.id=(sortBy Cl.id B).map Cl.id:=by unfold aa; rw[zi8]; rfl
  rw[this];exact ((jp B).map Cl.id).symm.nodup hn
 rw[List.Nodup,zk8] at h1;exact ((gy B).and h1).imp fun ⟨h2,h3⟩=>by have h2':_≤_:=h2; omega
theorem vm {B D:List Cl}(h:ShL B D)(hn:(B.map Cl.id).Nodup):aW 0 B=aW 0 D:=by
 have hca:=AE h hn;have hlen:B.length=D.length:=h.length;have hsB:=sh hn;have hsD:(aa D).Pairwise fun a b=>a.id<b.id:=by
  have h1:((aa B).map Cl.id).Pairwise fun a b=>a<b:=by rw[zk8]; exact hsB
  rw[AV hca,zk8] at h1;exact h1
 have htB:=dU hsB;have htD:=dU hsD;have h1:f8 (am B) (aa B) 0=f8 (am D) (aa D) 0:=by rw[htB,htD]; exact xB hca hca 0
 by_cases hl:(B.length:Int)>4000
 ·have hB:aN B=(0,2):=by unfold aN; rw[zg4 hl]
  have hD:aN D=(0,2):=by unfold aN; rw[zg4 oM]
  unfold aW;rw[fW,fW,hB,hD];rfl
 ·cases hq:f8 (am B) (aa B) 0 with
  | some p =>
   have hB:aN B=p:=by unfold aN; rw[zg3 hl,hq]; rfl
   have hD:aN D=p:=by unfold aN; rw[zg3 oM,← h1,hq]; rfl
   have hp:=rJ hq;unfold aW;rw[fW,fW,hB,hD,zg3 (by decide:¬ (0:Int)≠0),zg3 (by decide:¬ (0:Int)≠0),zg4 hp,zg4 hp]
  | none =>
   obtain ⟨-,-,h4⟩:=fL hq;have he:aa B=aa D:=xg hca fun c hc=>(Ch (h4 c hc)<|nX B c hc).asc;unfold aW;rw[he]
theorem Rt.findC {A:List Cl}(h:Rt A)(id:Int):findC A id=aB A id:=by
 unfold Go.Proofs.YtackilpikhkijaaGreatDoor.findC;rw[h.tab];rfl
theorem Rt.ids {A:List Cl}(h:Rt A):(A.map Cl.id).Nodup:=by
 rw[List.Nodup,zk8];exact h.asc.imp fun h=>by omega
theorem Rt.few64 {A:List Cl}(h:Rt A){c:Cl}(hc:c∈A):c.sides.length≤64:=(gn (h.form c hc).ok).1
theorem Rt.signs {A:List Cl}(h:Rt A){c:Cl}(hc:c∈A):∀ x∈c.sides,x.sign=1∨x.sign = -1:=(h.form c hc).sg
theorem Rt.difS {A:List Cl}(h:Rt A){c:Cl}(hc:c∈A):(c.sides.map Side.cell).Nodup:=by
 rw[List.Nodup,zk8];exact (h.form c hc).asc.imp fun h=>by omega
theorem Rt.getD {A:List Cl}(_:Rt A)(id:Int):((aB A id).getD bD)=bD∨((aB A id).getD bD)∈A:=by
 cases h:aB A id with
 | none=>exact .inl rfl
 | some c=>exact .inr (gG h).1
theorem Rt.fits {A:List Cl}(h:Rt A):bo A:=⟨by have:=h.few; omega,fun c hc=>by have:=h.few64 hc; omega⟩
theorem Rt.mem_above {A:List Cl}(h:Rt A){k id:Int}:id∈aj A k↔∃ c∈A,c.id=id∧mw c k=true:=by
 unfold aj;rw[h.tab,zf5];constructor
 ·rintro ⟨c,hc,rfl⟩;obtain ⟨h1,h2⟩:=zh7.1 hc;exact⟨c,h1,I,h2⟩
 ·rintro ⟨c,h1,rfl,h2⟩;exact⟨c,zh7.2 ⟨h1,h2⟩,I⟩
theorem Rt.above_nodup {A:List Cl}(h:Rt A)(k:Int):(aj A k).Nodup:=by
 unfold aj;rw[h.tab];exact (List.filter_sublist.map Cl.id).nodup h.ids
theorem Rt.not_self {A:List Cl}(h:Rt A)(k:Int):k ∉ aj A k:=fun hk=>by
 obtain ⟨c,hc,rfl,hh⟩:=h.mem_above.1 hk;unfold mw at hh;obtain ⟨x,hx,he⟩:=zk2.1 hh;obtain ⟨d,hd1,hd2⟩:=(h.form c hc).found x hx;rw[zg6 he,h.find hc] at hd1;cases hd1;omega
theorem Rt.edge {A:List Cl}(h:Rt A){c:Cl}(hc:c∈A)(hd:c.dim=1):∃ z0 z1,c.sides=[z0,z1]∧((z0.sign=1∧z1.sign = -1)∨(z0.sign = -1∧z1.sign=1)):=by
 have hf:=h.form c hc;have h1:=hf.cnt;have h2:c.sides.length=2:=by
  unfold bh at h1;simp[hd] at h1;omega
 obtain ⟨z0,z1,h3⟩:∃ z0 z1,c.sides=[z0,z1]:=by
  match hs:c.sides,h2 with
  | [z0,z1],_=>exact⟨z0,z1,rfl⟩
 refine⟨z0,z1,h3,?_⟩;have h4:=hf.one hd;have h5:=hf.sg z0 (by rw[h3]; simp);have h6:=hf.sg z1 (by rw[h3]; simp);rw[h3] at h4;simp[oa] at h4;omega
theorem Rt.above_one {A:List Cl}(h:Rt A){k m:Int}(ha:aj A k=[m]):∃ c∈A,c.id=m∧aB A m=some c∧mw c k=true:=by
 obtain ⟨c,hc,rfl,hh⟩:=h.mem_above.1 (show m∈aj A k by rw[ha]; simp);exact⟨c,hc,I,h.find hc,hh⟩
theorem pg {A:List Cl}(h:Rt A)(e:Ed):cG A e=dP A e:=by
 unfold cG dP;rw[h.findC,h.findC,Bool.and_comm]
theorem nV {A:List Cl}(h:Rt A)(e:Ed):∀ x∈bA A e,x.sign=1∨x.sign = -1:=by
 unfold bA
 rcases h.getD e.other with h1 | h1
 ·rw[h1]; intro x hx; cases hx
 ·exact h.signs h1
theorem jC {A:List Cl}(h:Rt A)(e:Ed):(bA A e).length≤64:=by
 unfold bA
 rcases h.getD e.other with h1 | h1
 ·rw[h1]; decide
 ·exact h.few64 h1
theorem mr {A:List Cl}(h:Rt A)(e:Ed)(ha:aj A e.cell=[e.other]):(bA A e).any (fun x=>decide (x.cell=e.cell))=true:=by
 obtain ⟨c,hc,hi,hf,hh⟩:=h.above_one ha;unfold bA;rw[hf];exact hh
theorem xf {cell:Int}:∀ {S:List Side} (a:Int),(∀ x∈S,x.cell≠cell)→S.foldl (fun a x=>if x.cell=cell then x.sign else a) a=a
 | [],_,_=>rfl
 | x::S,a,h=>by
  rw[zj2,zg3 (h x<|by simp)];exact xf a fun y hy=>h y (by simp[hy])
theorem rD {cell:Int}:∀ {S:List Side},(S.map Side.cell).Nodup→S.any (fun x=>decide (x.cell=cell))=true→S.eraseIdx (S.findIdx fun x=>decide (x.cell=cell))=S.filter (fun x=>!decide (x.cell=cell))∧lh S (S.findIdx fun x=>decide (x.cell=cell))=sgF S cell
 | [],_,h=>by cases h
 | x::S,hn,h=>by
  rw[zg7,zk6] at hn;rw[List.findIdx_cons];by_cases hx:x.cell=cell
  ·have hno:∀ y∈S,y.cell≠cell:=fun y hy e=>hn.1<|zf5.2 ⟨y,hy,by rw[e,hx]⟩;have h1:S.filter (fun x=>!decide (x.cell=cell))=S:=List.filter_eq_self.2 fun y hy=>by simp[hno y hy]
   rw[zg2 hx];refine⟨by simp[hx,h1],?_⟩;show x.sign=_;unfold sgF;rw[zj2,zg4 hx,xf _ hno]
  ·have h1:S.any (fun x=>decide (x.cell=cell))=true:=by simpa [hx] using h
   obtain ⟨h2,h3⟩:=rD hn.2 h1;rw[zg1 hx];refine⟨?_,?_⟩
   ·simp[hx,h2]
   ·have h4:sgF (x::S) cell=sgF S cell:=by unfold sgF; rw[zj2,zg3 hx]
    rw[h4,← h3];simp[lh]
theorem uo {A:List Cl}(h:Rt A)(e:Ed)(ha:aj A e.cell=[e.other]):sortBy Prod.fst (eI A e)=cU A e:=by
 have hmem:=mr h e ha;obtain ⟨c,hc,hi,hf,hh⟩:=h.above_one ha;have hS:bA A e=c.sides:=by unfold bA; rw[hf]; rfl
 have hR:cU A e=(c.sides.filter fun x=>!decide (x.cell=e.cell)).map fun x=>(x.cell,-sgF c.sides e.cell * x.sign):=by unfold cU; rw[h.findC,hf]; rfl
 rw[hS] at hmem;obtain ⟨h1,h2⟩:=rD (h.difS hc) hmem;have hC:eI A e=cU A e:=by
  rw[hR];unfold eI;rw[hS,h1,h2]
 rw[hC];refine (cR ?_<|aG.refl _).symm;rw[hR];unfold Srt;rw[zk8];exact ((h.form c hc).asc.sublist List.filter_sublist).imp fun h=>by dsimp only; omega
theorem ne {k m:Int}{ch x:List Tm}(h:m=k):cS k ch (m,x)=(m,ch):=zg4 h
theorem kJ {k m:Int}{ch x:List Tm}(h:¬ m=k):cS k ch (m,x)=(m,x):=zg3 h
def mD (A:List Cl)(e:Ed)(k:Int):List Tm:=if k=e.cell then cU A e else if k=e.other then [] else [(k,1)]
theorem un {A:List Cl}(h:Rt A)(e:Ed)(ha:aj A e.cell=[e.other])(v1 v2:Value)(k:Int):qQ [(e.cell,v1,eI A e),(e.other,v2,[])] k=mD A e k:=by
 unfold qQ mD;by_cases h1:k=e.cell
 ·subst h1;rw[zg4 rfl,List.find?_cons_of_pos (by simp)];exact uo h e ha
 ·rw[zg3 h1,List.find?_cons_of_neg (by simpa using fun e=>h1 e.symm)];by_cases h2:k=e.other
  ·subst h2;rw[zg4 rfl,List.find?_cons_of_pos (by simp)];rfl
  ·rw[zg3 h2,List.find?_cons_of_neg (by simpa using fun e=>h2 e.symm)];rfl
theorem wv {A:List Cl}(h:Rt A)(e:Ed)(ha:aj A e.cell=[e.other]):(((am A).map fX).map<|cS e.cell<|cU A e).map (cS e.other [])=A.map fun c=>(c.id,mD A e c.id):=by
 have hne:e.cell≠e.other:=fun he=>by
  have:=h.not_self e.cell;rw[ha,he] at this;exact this (by simp)
 rw[h.tab,zi8,zi8];refine zc9 fun c _=>?_;show cS e.other [] (cS e.cell (cU A e) (c.id,[(c.id,1)]))=_;unfold mD;by_cases h1:c.id=e.cell
 ·rw[ne h1,kJ (by rw[h1]; exact hne),zg4 h1]
 ·rw[kJ h1,zg3 h1];by_cases h2:c.id=e.other
  ·rw[ne h2,zg4 h2]
  ·rw[kJ h2,zg3 h2]
theorem sn {A:List Cl}(h:Rt A)(e:Ed):bG A e=be A e:=by
 unfold bG be;rw[h.findC,h.findC,h.findC];have h1:(e.new<1∨e.other<1∨e.new=e.other)↔(min e.new e.other<1∨e.new=e.other):=oM;simp only[h1];cases aB A e.cell <;> rfl
theorem rh {e:Ed}:∀ {S:List Side},(S.map Side.cell).Nodup→ew e S=if S.any (fun x=>decide (x.cell=e.cell)) then [⟨e.other,Ba S e.cell⟩] else []
 | [],_=>rfl
 | x::S,hn=>by
  rw[zg7,zk6] at hn;by_cases hx:x.cell=e.cell
  ·have hno:∀ y∈S,y.cell≠e.cell:=fun y hy e'=>hn.1<|zf5.2 ⟨y,hy,by rw[e',hx]⟩;have h1:S.filter (fun x=>decide (x.cell=e.cell))=[]:=List.filter_eq_nil_iff.2 fun y hy=>by simp[hno y hy]
   unfold ew Ba;simp[hx,h1]
  ·have ih:=rh (e:=e) hn.2;unfold ew Ba at ih ⊢;simp[hx] at ih ⊢;exact ih
theorem uM {c:Cl}:∀ {B:List Cl},(B.map Cl.id).Nodup→(∃ x∈B,x.id=c.id)→em B c=B.map fun y=>if y.id=c.id then c else y
 | [],_,⟨x,hx,_⟩=>by cases hx
 | x::B,hn,hx=>by
  rw[zg7,zk6] at hn;unfold em;by_cases h1:c.id=x.id
  ·rw[zg4 h1,zg7,zg4 h1.symm];congr 1;have:B.map (fun y=>if y.id=c.id then c else y)=B.map id:=zc9 fun y hy=>by
    rw[zg3 fun e=>hn.1<|zf5.2 ⟨y,hy,by rw[e,h1]⟩];rfl
   rw[this,List.map_id]
  ·rw[zg3 h1,zg7,zg3 fun e=>h1 e.symm];congr 1;refine uM hn.2 ?_;obtain ⟨y,hy,he⟩:=hx
   rcases zf4.1 hy with rfl | hy
   ·exact absurd he.symm h1
   ·exact⟨y,hy,he⟩
theorem vd {A:List Cl}{k:Int}(h:(aB A k).isSome=false):∀ x∈A,x.id≠k:=fun x hx he=>by
 have h1:(aB A k).isSome=true:=by
  unfold aB;rw[List.find?_isSome];exact⟨x,hx,by simpa using he⟩
 rw[h] at h1;cases h1
theorem Ay {S:List Side}{z0 z1:Side}(hl:S=[z0,z1])(h:(z0.sign=1∧z1.sign = -1)∨(z0.sign = -1∧z1.sign=1)):iK S true=⟨(iK S true).cell,1⟩∧iK S false=⟨(iK S false).cell,-1⟩:=by
 subst hl;obtain ⟨c0,s0⟩:=z0;obtain ⟨c1,s1⟩:=z1
 rcases h with ⟨h0,h1⟩ | ⟨h0,h1⟩ <;> dsimp only at h0 h1 <;> subst h0 <;> subst h1 <;> exact⟨rfl,rfl⟩
theorem nF {A:List Cl}(h:Rt A)(e:Ed)(hc:be A e=0):eZ A e=A.map (di e (iK ((findC A e.cell).getD bD).sides false).cell)++[⟨e.new,0,[]⟩,⟨e.other,1,[⟨e.new,-1⟩,⟨(iK ((findC A e.cell).getD bD).sides true).cell,1⟩]⟩]:=by
 rw[h.findC];unfold be at hc;cases hf:aB A e.cell with
 | none=>rw[hf] at hc; cases hc
 | some c =>
 rw[hf] at hc;dsimp only at hc;split at hc
 ·cases hc
 rename_i hd;split at hc
 ·cases hc
 rename_i hnew;split at hc
 ·cases hc
 rename_i hno;rw[zj7,not_or,zk1,zk1] at hno;have hd:c.dim=1:=Decidable.not_not.1 hd;obtain ⟨hcA,hci⟩:=gG hf;obtain ⟨z0,z1,hz,hsg⟩:=h.edge hcA hd;obtain ⟨e1,e2⟩:=Ay hz hsg;unfold eZ;rw[hf,Option.getD_some];generalize iK c.sides true=zt at *;generalize iK c.sides false=zf at *;have hids:(aY A e<|aj A e.cell).map Cl.id=A.map Cl.id:=by
  unfold aY;rw[zi8];refine zc9 fun y _=>?_;show (if y.id∈aj A e.cell then eT e y else y).id=y.id;split <;> rfl
 have hmemid:∀ k,(∃ x∈aY A e (aj A e.cell),x.id=k)→∃ x∈A,x.id=k:=fun k ⟨x,hx,he⟩=>by
  have h1:k∈(aY A e<|aj A e.cell).map Cl.id:=zf5.2 ⟨x,hx,he⟩;rw[hids] at h1;obtain ⟨y,hy,he⟩:=zf5.1 h1;exact⟨y,hy,he⟩
 have hno1:=vd hno.1;have hno2:=vd hno.2;have hp1:em (aY A e<|aj A e.cell) ⟨e.new,0,[]⟩=aY A e (aj A e.cell)++[⟨e.new,0,[]⟩]:=mL fun x hx he=>by
  obtain ⟨y,hy,he⟩:=hmemid e.new ⟨x,hx,he⟩;exact hno1 y hy he
 have hp2:em (aY A e (aj A e.cell)++[⟨e.new,0,[]⟩]) ⟨e.other,1,[⟨e.new,-1⟩,zt]⟩=(aY A e (aj A e.cell)++[⟨e.new,0,[]⟩])++[⟨e.other,1,[⟨e.new,-1⟩,zt]⟩]:=mL fun x hx he=>by
  rcases zf6.1 hx with hx | hx
  ·obtain ⟨y,hy,he⟩:=hmemid e.other ⟨x,hx,he⟩;exact hno2 y hy he
  ·simp at hx;subst hx;exact hnew<|.inr he
 have hcn:e.cell≠e.new:=fun he=>hno1 c hcA (by rw[hci,he]);have hco:e.cell≠e.other:=fun he=>hno2 c hcA (by rw[hci,he]);have hnd:(((aY A e (aj A e.cell)++[(⟨e.new,0,[]⟩:Cl)])++[(⟨e.other,1,[⟨e.new,-1⟩,zt]⟩:Cl)]).map Cl.id).Nodup:=by
  rw[← hp2,← hp1];exact fu<|fu (by rw[hids]; exact h.ids)
 rw[hp1,hp2,uM hnd]
 ·rw[zg8,zg8,zh2];congr 1
  ·unfold aY;rw[zi8];refine zc9 fun y hy=>?_;show (if (if y.id∈aj A e.cell then eT e y else y).id=e.cell then _ else _)=_;have hyi:(if y.id∈aj A e.cell then eT e y else y).id=y.id:=by split <;> rfl
   rw[hyi];unfold di;by_cases h1:y.id=e.cell
   ·have hyc:y=c:=h.same hy hcA (by rw[h1,hci]);subst hyc;rw[zg4 h1,zg4 h1,h1,hd,e2]
   ·rw[zg3 h1,zg3 h1,rh<|h.difS hy];by_cases h2:mw y e.cell=true
    ·have h3:y.id∈aj A e.cell:=h.mem_above.2 ⟨y,hy,rfl,h2⟩;unfold mw at h2;rw[zg4 h3,zg4 h2];rfl
    ·have h3:y.id ∉ aj A e.cell:=fun h4=>by
      obtain ⟨z,hz,he,hh⟩:=h.mem_above.1 h4;rw[h.same hz hy he] at hh;exact h2 hh
     unfold mw at h2;rw[zg3 h3,zg3 h2,zc7]
  ·simp only[zg7,List.map_nil,List.cons_append,List.nil_append];rw[zg3 (by exact fun he=>hcn he.symm),zg3 (by exact fun he=>hco he.symm),e1]
 ·have h1:e.cell∈(aY A e<|aj A e.cell).map Cl.id:=by
   rw[hids];exact zf5.2 ⟨c,hcA,hci⟩
  obtain ⟨x,hx,he⟩:=zf5.1 h1;exact (by exact⟨x,List.mem_append_left _<|List.mem_append_left _ hx,he⟩)
theorem ShC.refl (c:Cl):ShC c c:=⟨rfl,rfl,.refl _⟩
theorem uF {A:List Cl}(h:Rt A)(e:Ed)(hc:be A e=0):ShL (eZ A e) (eV A e):=by
 refine⟨eV A e,?_,?_⟩
 ·rw[nF h e hc];exact List.perm_append_comm
 ·have:∀ l:List Cl,aA ShC l l:=fun l=>by
   induction l with
   | nil=>trivial
   | cons x l ih=>exact⟨ShC.refl x,ih⟩
  exact this _
theorem jU {A:List Cl}(h:Rt A)(e:Ed):((eZ A e).map Cl.id).Nodup:=by
 unfold eZ;have hids:(aY A e<|aj A e.cell).map Cl.id=A.map Cl.id:=by
  unfold aY;rw[zi8];refine zc9 fun y _=>?_;show (if y.id∈aj A e.cell then eT e y else y).id=y.id;split <;> rfl
 exact fu<|fu<|fu (by rw[hids]; exact h.ids)
def iM (e:Ed)(k:Int):List Tm:=if k=e.cell then cd e else [(k,1)]
theorem qu (e:Ed)(v1:Value)(k:Int):qQ [(e.cell,v1,[(e.cell,1),(e.other,1)])] k=iM e k:=by
 unfold qQ iM cd;by_cases h1:k=e.cell
 ·subst h1;rw[zg4 rfl,List.find?_cons_of_pos (by simp)];show sortBy Prod.fst [(e.cell,(1:Int)),(e.other,1)]=_;simp only[sortBy,ins];by_cases h2:e.other<e.cell
  ·rw[zg4 h2,zg3 oM]
  ·rw[zg3 h2,zg4 oM]
 ·rw[zg3 h1,List.find?_cons_of_neg (by simpa using fun e=>h1 e.symm)];rfl
theorem sk {A:List Cl}(h:Rt A)(e:Ed):((am A).map fX).map (cS e.cell<|cd e)=A.map fun c=>(c.id,iM e c.id):=by
 rw[h.tab,zi8];refine zc9 fun c _=>?_;show cS e.cell (cd e) (c.id,[(c.id,1)])=_;unfold iM;by_cases h1:c.id=e.cell
 ·rw[ne h1,zg4 h1]
 ·rw[kJ h1,zg3 h1]
theorem mn {A:List Cl}(h:Rt A)(e:Ed):dj A e=dG A e:=by
 have h1:lL A=fp A:=funext fun id=>by unfold lL fp; rw[h.findC]
 have h2:iz A=qJ A:=funext fun id=>by unfold iz qJ; rw[h.findC]
 have h3:gY A e.pairs=iG A e.pairs:=funext fun p=>by unfold gY iG; rw[h2]
 have h4:(fun p:Pr=>(findC A p.1).isSome&&(findC A p.2).isSome)=fun p=>(aB A p.1).isSome&&(aB A p.2).isSome:=funext fun p=>by rw[h.findC,h.findC]
 unfold dj dG;rw[h1,h3,h4]
theorem uW (A:List Cl)(e:Ed):ShL (eH A e) (fD A e):=by
 refine⟨eH A e,.refl _,?_⟩;unfold eH fD;have:dw A (e.pairs.map Prod.snd)=gN A (e.pairs.map Prod.snd):=rfl;rw[this];generalize gN A (e.pairs.map Prod.snd)=l;induction l with
 | nil=>trivial
 | cons c l ih=>exact⟨⟨rfl,rfl,fF _⟩,ih⟩
theorem jY {A:List Cl}(h:Rt A)(e:Ed):((eH A e).map Cl.id).Nodup:=by
 unfold eH;rw[zi8];have:(Cl.id ∘ zz (byF e.pairs))=Cl.id:=rfl;rw[this];exact (List.filter_sublist.map Cl.id).nodup h.ids
theorem pH {k:Int}:∀ {ps:List Pr} (ch:List Tm),(ps.map Prod.snd).Nodup→ps.foldl (fun p q=>cS q.2 [(q.1,1)] p) (k,ch)=(k,match byF ps k with | some t=>[(t,1)] | none=>ch)
 | [],_,_=>rfl
 | q::ps,ch,hn=>by
  rw[zg7,zk6] at hn;rw[zj2];by_cases h1:k=q.2
  ·have h2:cS q.2 [(q.1,1)] (k,ch)=(k,[(q.1,1)]):=zg4 h1;have h3:byF ps k=none:=by
    unfold byF;rw[Option.map_eq_none_iff,List.find?_eq_none];intro p hp he;exact hn.1<|zf5.2 ⟨p,hp,by rw[← h1]; simpa using he⟩
   have h4:byF (q::ps) k=some q.1:=by unfold byF; rw[List.find?_cons_of_pos (by simpa using h1.symm)]; rfl
   rw[h2,pH _ hn.2,h3,h4]
  ·have h2:cS q.2 [(q.1,1)] (k,ch)=(k,ch):=zg3 h1;have h4:byF (q::ps) k=byF ps k:=by unfold byF; rw[List.find?_cons_of_neg (by simpa using fun e=>h1 e.symm)]
   rw[h2,pH _ hn.2,h4]
theorem nI:∀ (ps:List Pr) (M:List (Int×List Tm)),fg ps M=M.map fun p=>ps.foldl (fun p q=>cS q.2 [(q.1,1)] p) p
 | [],M=>by simp[fg]
 | q::ps,M=>by
  have h1:fg (q::ps) M=fg ps (M.map<|cS q.2 [(q.1,1)]):=rfl;rw[h1,nI ps,zi8];rfl
theorem sI {A:List Cl}(h:Rt A)(e:Ed)(hd:lJ e.pairs=false):fg e.pairs ((am A).map fX)=A.map fun c=>(c.id,gV e c.id):=by
 have hn:(e.pairs.map Prod.snd).Nodup:=kY (by
  unfold lJ at hd;rw[decide_eq_false_iff_not,Decidable.not_not] at hd;exact hd)
 rw[h.tab,nI,zi8];refine zc9 fun c _=>?_;show e.pairs.foldl (fun p q=>cS q.2 [(q.1,1)] p) (c.id,[(c.id,1)])=_;rw[pH _ hn];unfold gV;cases byF e.pairs c.id <;> rfl
theorem yR {A:List Cl}{e:Ed}(h:dG A e=0):lJ e.pairs=false:=by
 unfold dG at h;split at h
 ·split at h
  ·cases h
  ·rename_i h1; simpa using h1
 ·cases h
set_option maxHeartbeats 2000000
def cj (A:List Cl)(e:Ed):Int:=if e.kind=1 then gz A e else if e.kind=2 then jL A e else if e.kind=3 then be A e else if e.kind=4 then dG A e else if e.kind=5 then dP A e else 1
def c8 (A:List Cl)(e:Ed):List Cl:=if e.kind=1 then A++[⟨e.cell,e.dim,e.sides⟩] else if e.kind=2 then dw A [e.cell] else if e.kind=3 then eV A e else if e.kind=4 then fD A e else dw A [e.cell,e.other]
def sZ (A:List Cl)(e:Ed)(k:Int):List Tm:=if e.kind=3 then iM e k else if e.kind=4 then gV e k else if e.kind=5 then mD A e k else [(k,1)]
def bkK (e:Ed):Bool:=decide (e.kind=2)
def c4 (l:List Cl)(e:Ed):Int×List Cl:=if (aN l).2=0 then aW (cj (aa l) e) (c8 (aa l) e) else (1,[])
def sY (l:List Cl)(e:Ed):List (Int×List Tm):=(if bkK e then (c4 l e).2 else aa l).map fun c=>(c.id,sZ (aa l) e c.id)
theorem fj.congr {code:Int}{D:List Cl}{ims ims':List (Int×List Tm)}{bk bk':Bool}{r:Value}{g:PH}(h:fj code D ims bk r g)(hi:code=0→ims=ims')(hb:code=0→bk=bk'):fj code D ims' bk' r g:=by
 obtain ⟨u,p,n,c,b,h1,h2,h3,h4⟩:=h;refine⟨u,p,n,c,b,h1,h2,fun h0=>?_,h4⟩;obtain ⟨h5,h6⟩:=h3 h0;rw[hi h0] at h6;exact⟨h5.trans<|hb h0,h6⟩
theorem xY {A:List Cl}(hn:(A.map Cl.id).Nodup)(a b:Int):ox (ox A a) b=dw A [a,b]:=by
 have h0:A=gN A []:=(List.filter_eq_self.2 fun _ _=>by simp).symm;have h1:ox A a=gN A [a]:=by
  have:=kK hn [] a;rw[← h0] at this;exact this
 rw[h1,kK hn];rfl
theorem xZ {A:List Cl}(hn:(A.map Cl.id).Nodup)(a:Int):ox A a=dw A [a]:=by
 have h0:A=gN A []:=(List.filter_eq_self.2 fun _ _=>by simp).symm;have:=kK hn [] a;rw[← h0] at this;exact this
theorem qZ {A:List Cl}(hn:(A.map Cl.id).Nodup)(ks:List Int):((dw A ks).map Cl.id).Nodup:=(List.filter_sublist.map Cl.id).nodup hn
theorem re {A:List Cl}(h:Rt A)(ks:List Int):aa (dw A ks)=dw A ks∧am (dw A ks)=dw A ks:=by
 have h1:(dw A ks).Pairwise fun a b=>a.id<b.id:=h.asc.sublist List.filter_sublist;have h2:aa (dw A ks)=dw A ks:=by
  unfold aa;rw[(cR (key:=Cl.id) (h1.imp fun h=>by omega)<|aG.refl _).symm];have:∀ c∈dw A ks,fc c=c:=fun c hc=>by
   unfold fc;rw[(cR (key:=Side.cell) ((h.form c (zh7.1 hc).1).asc.imp fun h=>by omega)<|aG.refl c.sides).symm]
  rw[zc9 this];simp
 exact⟨h2,by rw[dU (by rw[h2]; exact h1),h2]⟩
theorem oS {A:List Cl}(h:Rt A)(e:Ed)(hc:be A e=0):bo (eZ A e):=by
 rw[nF h e hc];have hl:=h.few;refine⟨by simp only[ze8,ze9,zf2,zc5]; omega,fun c hc=>?_⟩
 rcases zf6.1 hc with hc | hc
 ·obtain ⟨y,hy,rfl⟩:=zf5.1 hc;have h1:=h.few64 hy;have h2:(ew e y.sides).length≤y.sides.length:=by unfold ew; rw[ze9]; exact zc6 _ _
  unfold di;split
  ·simp
  ·simp only[ze8]; omega
 ·simp at hc
  rcases hc with rfl | rfl <;> simp
theorem o7 {A:List Cl}(hf:bo A)(e:Ed):bo (eH A e):=by
 refine⟨?_,fun c hc=>?_⟩
 ·unfold eH;rw[ze9];exact Nat.lt_of_le_of_lt (zc6 _ _) hf.1
 ·unfold eH at hc;obtain ⟨y,hy,rfl⟩:=zf5.1 hc;have h1:=hf.2 y (zh7.1 hy).1;show (hX<|y.sides.map<|dY<|byF e.pairs).length<_;rw[(fF _).length_eq,ze9];exact h1
theorem xO {A:List Cl}(hA:Rt A)(e:Ed):jt (.func (.func 80) #[] #[]) e A (be A e) (eZ A e) (iM e) false:=by
 intro E g s bx mb ms u v rs hu hO hv;refine dA.mk (args:=[_,_]) (cap:=[]) call80 ?_;refine (vJ E g s bx mb ms u v e A rs hu hA.fits hA.ids hO hv ?_ (hA.above_nodup _) (hA.not_self _) ?_).mono ?_
 ·intro id hid;obtain ⟨c,hc,rfl,hh⟩:=hA.mem_above.1 hid;exact⟨c,hA.find hc,hh,hA.few64 hc⟩
 ·intro c hc hd;exact hA.edge (gG hc).1 hd
 ·rintro r g' s' ⟨h1,h2,h3⟩;refine⟨h1,h2,?_⟩;by_cases h0:be A e=0
  ·rw[zg4 h0] at h3 ⊢;obtain ⟨rs',v1,p,n,c,hv1,h4,rfl⟩:=h3;have hne:e.cell≠e.other:=fun he=>by
    unfold be at h0;cases hf:aB A e.cell with
    | none=>rw[hf] at h0; cases h0
    | some c =>
     rw[hf] at h0;rw[he] at hf;rw[hf] at h0;dsimp only at h0;split at h0
     ·cases h0
     ·split at h0
      ·cases h0
      ·simp at h0
   refine⟨rs',_,h4,?_,by simp,qu e v1,I⟩;intro t ht;simp at ht;subst ht;exact⟨by simp,by simpa using hne,p,n,c,hv1⟩
  ·rw[zg3 h0] at h3 ⊢;exact h3
theorem yQ {A:List Cl}(hA:Rt A)(e:Ed)(hpl:e.pairs.length<1099511627776):jt (.func (.func 81) #[] #[]) e A (dG A e) (eH A e) (gV e) false:=by
 intro E g s bx mb ms u v rs hu hO hv;refine dA.mk (args:=[_,_]) (cap:=[]) call81<|Ctr.freezeO (L:=[edP bx u mb ms false,mp mb<|rs.map ak,mp ms []]) hO fun g1 hle1 hall=>?_;refine (qD E g1 s bx mb ms u v e A rs hA.fits hA.ids hall (hv.mono hle1) hpl).mono ?_;rintro r g' s' ⟨h1,h2,h3⟩;exact⟨hle1.trans h1,h2,h3⟩
theorem BX {A:List Cl}(hA:Rt A)(e:Ed):jt (.func (.func 82) #[] #[]) e A (dP A e) (ox (ox A e.cell) e.other) (mD A e) false:=by
 intro E g s bx mb ms u v rs hu hO hv;refine dA.mk (args:=[_,_]) (cap:=[]) call82<|Ctr.freezeO (L:=[edP bx u mb ms false,mp mb<|rs.map ak,mp ms []]) hO fun g1 hle1 hall=>?_;refine (qG E g1 s bx mb ms u v e A rs (hu.mono hle1) hA.fits hall (hv.mono hle1) (nV hA e) (jC hA e)<|mr hA e).mono ?_;rintro r g' s' ⟨h1,h2,h3⟩;refine⟨hle1.trans h1,h2,?_⟩;by_cases h0:dP A e=0
 ·rw[zg4 h0] at h3 ⊢;obtain ⟨v1,p,n,c,hv1,rfl⟩:=h3;have ha:aj A e.cell=[e.other]:=by
   unfold dP at h0;split at h0
   ·split at h0
    ·rename_i h; exact h.1
    ·cases h0
   ·cases h0
  obtain ⟨cy,hcy,hi,hf,hh⟩:=hA.above_one ha;have hne:e.cell≠e.other:=fun he=>by
   have:=hA.not_self e.cell;rw[ha,he] at this;exact this (by simp)
  refine⟨mW (mW rs e.cell) e.other,_,((kA (fun _ _ h=>h.1) e.other<|kA (fun _ _ h=>h.1) e.cell hall).mono fun _ _=>ar.mono h1),?_,?_,un hA e ha v1<|.slice none 0 0,I⟩
  ·intro t ht;simp at ht
   rcases ht with rfl | rfl
   ·have hS:bA A e=cy.sides:=by unfold bA; rw[hf]; rfl
    have h64:=jC hA e;refine⟨?_,?_,p,n,c,hv1⟩
    ·show (eI A e).length<_;unfold eI;rw[ze9];have:=List.length_eraseIdx_le (bA A e) ((bA A e).findIdx fun x=>decide (x.cell=e.cell));omega
    ·show ((eI A e).map Prod.fst).Nodup;unfold eI;rw[zi8];have hs:((bA A e).eraseIdx<|(bA A e).findIdx fun x=>decide (x.cell=e.cell)).Sublist (bA A e):=List.eraseIdx_sublist _ _;refine (hs.map Side.cell).nodup ?_;rw[hS];exact hA.difS hcy
   ·exact⟨by simp,List.nodup_nil,none,0,0,I⟩
  ·simpa using hne
 ·rw[zg3 h0] at h3 ⊢;exact h3
theorem wG {A:List Cl}{e:Ed}(h:gz A e=0):em A ⟨e.cell,e.dim,e.sides⟩=A++[⟨e.cell,e.dim,e.sides⟩]:=by
 refine mL fun x hx hxe=>?_;unfold gz at h;have h1:(aB A e.cell).isSome=true:=by
  unfold aB;rw[List.find?_isSome];exact⟨x,hx,by simpa using hxe⟩
 rw[h1] at h;cases h
theorem uS {A:List Cl}(hA:Rt A)(e:Ed)(hes:e.sides.length<1099511627776)(hpl:e.pairs.length<1099511627776)(hk:e.kind=1∨e.kind=2∨e.kind=3∨e.kind=4∨e.kind=5) :
  ∃ fv B,dS ln e.kind=some fv∧jt fv e A (cj A e) B (sZ A e) (bkK e)∧(cj A e=0→bo B∧(B.map Cl.id).Nodup∧aW 0 B=aW 0 (c8 A e)):=by
 unfold cj sZ bkK c8;have hs:(fun k:Int=>[(k,(1:Int))])=Ce:=rfl
 rcases hk with hk | hk | hk | hk | hk <;> simp only[hk] <;> simp only[Int.reduceEq,if_true,if_false,decide_true,decide_false]
 ·refine⟨_,em A ⟨e.cell,e.dim,e.sides⟩,I,(wE A e hes).gen,fun h0=>?_⟩;have hB:=wG h0;refine⟨?_,fu hA.ids,by rw[hB]⟩;rw[hB];have hl:=hA.few;refine⟨by rw[ze8,zf1]; omega,fun c hc=>?_⟩
  rcases zf6.1 hc with hc | hc
  ·exact hA.fits.2 c hc
  ·simp at hc; subst hc; exact hes
 ·refine⟨_,ox A e.cell,I,(vR A hA.fits e).gen,fun h0=>?_⟩;rw[xZ hA.ids];exact⟨ft hA.fits _,qZ hA.ids _,I⟩
 ·refine⟨_,eZ A e,I,xO hA e,fun h0=>?_⟩;exact⟨oS hA e h0,jU hA e,vm (uF hA e h0)<|jU hA e⟩
 ·refine⟨_,eH A e,I,yQ hA e hpl,fun h0=>?_⟩;exact⟨o7 hA.fits e,jY hA e,vm (uW A e)<|jY hA e⟩
 ·refine⟨_,ox (ox A e.cell) e.other,I,BX hA e,fun h0=>?_⟩;rw[xY hA.ids];exact⟨ft hA.fits _,qZ hA.ids _,I⟩
theorem BN {e:Ed}(hk:¬ (e.kind=1∨e.kind=2∨e.kind=3∨e.kind=4∨e.kind=5)):dS ln e.kind=none:=by
 unfold ln;simp only[cQ,uP]
 repeat' rw[zg3 oM]
theorem ph {A:List Cl}{e:Ed}(hk:¬ (e.kind=1∨e.kind=2∨e.kind=3∨e.kind=4∨e.kind=5)):cj A e=1:=by
 unfold cj;rw[zg3 oM,zg3 oM,zg3 oM,zg3 oM,zg3 oM]
theorem jc.congr {g0:PH}{code:Int}{D:List Cl}{ims ims':List (Int×List Tm)}{bk bk':Bool}{r:Value}{g:PH}(h:jc g0 code D ims bk r g)(hi:code=0→ims=ims')(hb:code=0→bk=bk'):jc g0 code D ims' bk' r g:=by
 obtain ⟨u,p,n,c,b,h1,h2,h3,h4⟩:=h;refine⟨u,p,n,c,b,h1,h2,fun h0=>?_,h4⟩;obtain ⟨h5,h6⟩:=h3 h0;rw[hi h0] at h6;exact⟨h5.trans<|hb h0,h6⟩
theorem tT (E:World)(g:PH)(s:Own)(v ev:Value)(l:List Cl)(e:Ed)(hv:ao g v l)(hf:bo l)(he:EdR g ev e)(hes:e.sides.length<1099511627776)(hpl:e.pairs.length<1099511627776) :
  Ctr Tryz.prog E 16 #[.agg #[v],ev] g s (fun r g' s'=>s=s'∧Le g g'∧jc g (c4 l e).1 (c4 l e).2 (sY l e) (bkK e) r g'):=by
 by_cases hr:(aN l).2=0
 ·have hA:=wQ hr;have hap:c4 l e=aW (cj (aa l) e) (c8 (aa l) e):=zg4 hr;by_cases hk:e.kind=1∨e.kind=2∨e.kind=3∨e.kind=4∨e.kind=5
  ·obtain ⟨fv,B,h1,h2,h3⟩:=uS hA e hes hpl hk;have hout:aW (cj (aa l) e) B=c4 l e:=by
    rw[hap];by_cases h0:cj (aa l) e=0
    ·rw[h0]; exact (h3 h0).2.2
    ·unfold aW; rw[zg4 h0,zg4 h0]
   have h4:=wH E g s v ev l e hv hf he hr fv (cj (aa l) e) B (bkK e) h1 (sZ (aa l) e) h2 (fun h0=>⟨(h3 h0).1,(h3 h0).2.1⟩);refine h4.mono fun r g' s' ⟨h5,h6,h7⟩=>⟨h5,h6,?_⟩;rw[hout] at h7;refine h7.congr (fun h0=>?_) fun _=>I;have h8:aa B=(c4 l e).2:=by
    rw[← hout] at h0 ⊢;unfold aW at h0 ⊢;split at h0
    ·rename_i hh; exact absurd h0 hh
    ·rename_i hh;rw[zg3 hh];split at h0
     ·rename_i hh2; exact absurd h0 hh2
     ·rename_i hh2; rw[zg3 hh2]
   unfold sY;rw[h8]
  ·have hc1:=ph (A:=aa l) hk;have hout:c4 l e=(1,[]):=by rw[hap,hc1]; rfl
   rw[hout];exact po E g s v ev l e hv hf he _ _<|.inl<|BN hk
 ·have hout:c4 l e=(1,[]):=zg3 hr;rw[hout];exact po E g s v ev l e hv hf he _ _<|.inr hr
theorem lC (E:World)(g:PH)(s:Own)(v ev:Value)(l:List Cl)(e:Ed)(hv:ao g v l)(hf:bo l)(he:EdR g ev e)(hes:e.sides.length<1099511627776)(hpl:e.pairs.length<1099511627776) :
  Ctr Tryz.prog E 16 #[.agg #[v],ev] g s (fun r g' s'=>s=s'∧Le g g'∧fj (c4 l e).1 (c4 l e).2 (sY l e) (bkK e) r g') :=
 (tT E g s v ev l e hv hf he hes hpl).mono fun _ _ _ ⟨h1,h2,h3⟩=>⟨h1,h2,h3.old⟩
theorem kL (E:World)(g:PH)(s:Own)(v ev:Value)(l:List Cl)(e:Ed)(hv:ao g v l)(hf:bo l)(he:EdR g ev e)(hes:e.sides.length<1099511627776)(hpl:e.pairs.length<100000000000) :
  Ctr Tryz.prog E 37 #[.agg #[v],ev] g s (fun r g' s'=>s=s'∧Le g g'∧fj (c4 l e).1 (c4 l e).2 (sY l e) (bkK e) r g'):=by
 by_cases hr:(aN l).2=0
 ·have hA:=wQ hr;have hAf:=hA.fits;have hap:c4 l e=aW (cj (aa l) e) (c8 (aa l) e):=zg4 hr;by_cases hk:e.kind=1∨e.kind=2∨e.kind=3∨e.kind=4∨e.kind=5
  ·have hfin:∀ (D:List Cl) (ims:List (Int×List Tm)) (bk:Bool) (r:Value) (g':PH),D=(if cj (aa l) e=0 then c8 (aa l) e else aa l)→(cj (aa l) e=0→ims=(if bkK e then am (c8 (aa l) e) else aa l).map fun c=>(c.id,sZ (aa l) e c.id))→(cj (aa l) e=0→bk=bkK e)→(bkK e=true→cj (aa l) e=0→am (c8 (aa l) e)=aa (c8 (aa l) e)) →
     fj (aW (cj (aa l) e) D).1 (aW (cj (aa l) e) D).2 ims bk r g'→fj (c4 l e).1 (c4 l e).2 (sY l e) (bkK e) r g':=fun D ims bk r g' hD hi hb ht h7=>by
    have hout:aW (cj (aa l) e) D=c4 l e:=by
     rw[hap,hD];by_cases h0:cj (aa l) e=0
     ·rw[zg4 h0]
     ·unfold aW; rw[zg4 h0,zg4 h0]
    rw[hout] at h7;have hc0:(c4 l e).1=0→cj (aa l) e=0∧(c4 l e).2=aa (c8 (aa l) e):=fun h0=>by
     rw[hap] at h0 ⊢;unfold aW at h0 ⊢;split at h0
     ·rename_i hh; exact absurd h0 hh
     ·rename_i hh;rw[zg3 hh];split at h0
      ·rename_i hh2; exact absurd h0 hh2
      ·rename_i hh2; rw[zg3 hh2]; exact⟨Decidable.not_not.1 hh,I⟩
    refine h7.congr (fun h0=>?_) fun h0=>hb (hc0 h0).1;obtain ⟨q1,q2⟩:=hc0 h0;rw[hi q1];unfold sY;rw[q2];cases hbk:bkK e with
    | false=>rfl
    | true=>rw[zg4 rfl,zg4 rfl,ht hbk q1]
   have hDf:bo (if cj (aa l) e=0 then c8 (aa l) e else aa l):=by
    obtain ⟨fv,B,h1,h2,h3⟩:=uS hA e hes oM hk;split
    ·rename_i h0
     rcases hk with hk | hk | hk | hk | hk <;> unfold c8 <;> simp only[hk] <;> simp only[Int.reduceEq,if_true,if_false]
     ·have hl:=hA.few;refine⟨by rw[ze8,zf1]; omega,fun c hc=>?_⟩
      rcases zf6.1 hc with hc | hc
      ·exact hAf.2 c hc
      ·simp at hc; subst hc; exact hes
     ·exact ft hAf _
     ·have h0':be (aa l) e=0:=by unfold cj at h0; simp only[hk] at h0; simpa using h0
      exact (uF hA e h0').fits<|oS hA e h0'
     ·exact (uW _ e).fits<|o7 hAf e
     ·exact ft hAf _
    ·exact hAf
   rcases hk with hk | hk | hk | hk | hk
   ·have hcd:cj (aa l) e=gz (aa l) e:=by unfold cj; rw[zg4 hk]
    have hck:c8 (aa l) e=aa l++[⟨e.cell,e.dim,e.sides⟩]:=by unfold c8; rw[zg4 hk]
    have h:=fQ E g s v ev l e (cj (aa l) e) (if cj (aa l) e=0 then c8 (aa l) e else aa l) ((am<|aa l).map fX) false hv hf he hr hDf (.inl hk)
     (fun _ E g s v ev hv he=>by rw[hck]; exact oE E g s v ev (aa l) e hv hAf he hes (cj (aa l) e) (by rw[hcd,hA.findC]; rfl))
     (fun h=>by omega) (fun h=>by omega) (fun h=>by omega) (fun h=>by omega)
    refine h.mono fun r g' s' ⟨h5,h6,h7⟩=>⟨h5,h6,hfin _ _ _ _ _ I (fun _=>?_) (fun _=>?_) (fun hb=>?_) h7⟩
    ·have hb:bkK e=false:=by unfold bkK; rw[hk]; rfl
     rw[hb,hA.tab];refine zc9 fun c _=>?_;unfold sZ;rw[zg3 oM,zg3 oM,zg3 oM];rfl
    ·unfold bkK; rw[hk]; rfl
    ·unfold bkK at hb; rw[hk] at hb; cases hb
   ·have hcd:cj (aa l) e=jL (aa l) e:=by unfold cj; rw[zg3 oM,zg4 hk]
    have hck:c8 (aa l) e=dw (aa l) [e.cell]:=by unfold c8; rw[zg3 oM,zg4 hk]
    have h:=fQ E g s v ev l e (cj (aa l) e) (if cj (aa l) e=0 then c8 (aa l) e else aa l) ((am<|dw (aa l) [e.cell]).map fX) (decide (cj (aa l) e=0)) hv hf he hr hDf (.inr<|.inl hk)
     (fun h=>by omega)
     (fun _ E g s v ev hv he=>by rw[hck]; exact oD E g s v ev (aa l) e hv hAf he (cj (aa l) e) (by rw[hcd,hA.findC]; rfl))
     (fun h=>by omega) (fun h=>by omega) (fun h=>by omega)
    have hb:bkK e=true:=by unfold bkK; rw[hk]; rfl
    refine h.mono fun r g' s' ⟨h5,h6,h7⟩=>⟨h5,h6,hfin _ _ _ _ _ I (fun _=>?_) (fun h0=>?_) (fun hb h0=>?_) h7⟩
    ·rw[hb,zg4 rfl,hck];refine zc9 fun c _=>?_;unfold sZ;rw[zg3 oM,zg3 oM,zg3 oM];rfl
    ·rw[hb]; exact zg2 h0
    ·rw[hck,(re hA _).1,(re hA _).2]
   ·have hcd:cj (aa l) e=bG (aa l) e:=by unfold cj; rw[zg3 oM,zg3 oM,zg4 hk,sn hA]
    have hck:c8 (aa l) e=eV (aa l) e:=by unfold c8; rw[zg3 oM,zg3 oM,zg4 hk]
    have h:=fQ E g s v ev l e (cj (aa l) e) (if cj (aa l) e=0 then c8 (aa l) e else aa l) (((am<|aa l).map fX).map<|cS e.cell<|cd e) false hv hf he hr hDf (.inr<|.inr<|.inl hk)
     (fun h=>by omega) (fun h=>by omega)
     (fun _ E g s v ev hv he=>by
      rw[hck,hcd];refine qz E g s v ev (aa l) e hv hAf he (by have:=hA.few; omega) (fun c hc=>hA.few64 hc) ?_;intro c hc hd;rw[hA.findC] at hc;exact hA.edge (gG hc).1 hd)
     (fun h=>by omega) (fun h=>by omega)
    have hb:bkK e=false:=by unfold bkK; rw[hk]; rfl
    refine h.mono fun r g' s' ⟨h5,h6,h7⟩=>⟨h5,h6,hfin _ _ _ _ _ I (fun _=>?_) (fun _=>hb.symm) (fun hb2=>by rw[hb] at hb2; cases hb2) h7⟩;rw[hb,sk hA];refine zc9 fun c _=>?_;unfold sZ;rw[zg4 hk]
   ·have hcd:cj (aa l) e=dj (aa l) e:=by unfold cj; rw[zg3 oM,zg3 oM,zg3 oM,zg4 hk,mn hA]
    have hck:c8 (aa l) e=fD (aa l) e:=by unfold c8; rw[zg3 oM,zg3 oM,zg3 oM,zg4 hk]
    have h:=fQ E g s v ev l e (cj (aa l) e) (if cj (aa l) e=0 then c8 (aa l) e else aa l) (fg e.pairs<|(am<|aa l).map fX) false hv hf he hr hDf (.inr<|.inr<|.inr<|.inl hk)
     (fun h=>by omega) (fun h=>by omega) (fun h=>by omega)
     (fun _ E g s v ev hv he=>by
      rw[hck,hcd];refine mR E g s v ev (aa l) e hv hAf he hpl ?_;intro id;unfold iz;rw[hA.findC]
      rcases hA.getD id with h1 | h1
      ·rw[h1]; decide
      ·exact hAf.2 _ h1)
     (fun h=>by omega)
    have hb:bkK e=false:=by unfold bkK; rw[hk]; rfl
    refine h.mono fun r g' s' ⟨h5,h6,h7⟩=>⟨h5,h6,hfin _ _ _ _ _ I (fun h0=>?_) (fun _=>hb.symm) (fun hb2=>by rw[hb] at hb2; cases hb2) h7⟩;rw[hcd,mn hA] at h0;rw[hb,sI hA e<|yR h0];refine zc9 fun c _=>?_;unfold sZ;rw[zg3 oM,zg4 hk]
   ·have hcd:cj (aa l) e=cG (aa l) e:=by unfold cj; rw[zg3 oM,zg3 oM,zg3 oM,zg3 oM,zg4 hk,pg hA]
    have hck:c8 (aa l) e=dw (aa l) [e.cell,e.other]:=by unfold c8; rw[zg3 oM,zg3 oM,zg3 oM,zg3 oM]
    have hgs:((findC (aa l) e.other).getD bD).sides=bA (aa l) e:=by rw[hA.findC]; rfl
    have h:=fQ E g s v ev l e (cj (aa l) e) (if cj (aa l) e=0 then c8 (aa l) e else aa l) ((((am<|aa l).map fX).map<|cS e.cell<|cU (aa l) e).map<|cS e.other []) false hv hf he hr hDf (.inr<|.inr<|.inr<|.inr hk)
     (fun h=>by omega) (fun h=>by omega) (fun h=>by omega) (fun h=>by omega)
     (fun _ E g s v ev hv he=>by
      rw[hck,hcd];refine mS E g s v ev (aa l) e hv hAf he ?_ ?_
      ·rw[hgs]; exact nV hA e
      ·rw[hgs]; exact jC hA e)
    have hb:bkK e=false:=by unfold bkK; rw[hk]; rfl
    refine h.mono fun r g' s' ⟨h5,h6,h7⟩=>⟨h5,h6,hfin _ _ _ _ _ I (fun h0=>?_) (fun _=>hb.symm) (fun hb2=>by rw[hb] at hb2; cases hb2) h7⟩;rw[hcd,pg hA] at h0;have ha:aj (aa l) e.cell=[e.other]:=by
     unfold dP at h0;split at h0
     ·split at h0
      ·rename_i h; exact h.1
      ·cases h0
     ·cases h0
    rw[hb,wv hA e ha];refine zc9 fun c _=>?_;unfold sZ;rw[zg3 oM,zg3 oM,zg4 hk]
  ·have hc1:=ph (A:=aa l) hk;have hout:c4 l e=(1,[]):=by rw[hap,hc1]; rfl
   rw[hout];exact qA E g s v ev l e _ _ hv hf he hr oM oM oM oM oM
 ·have hout:c4 l e=(1,[]):=zg3 hr;rw[hout];exact sE E g s v ev l e _ _ hv hf he hr
theorem uu {code:Int}{B:List Cl}(h:(aW code B).1=0):Rt (aW code B).2∧code=0∧(aW code B).2=aa B:=by
 unfold aW at h ⊢;split at h
 ·rename_i h1; exact absurd h h1
 ·rename_i h1;rw[zg3 h1];split at h
  ·rename_i h2; exact absurd h h2
  ·rename_i h2;rw[zg3 h2];have h3:=wQ<|Decidable.not_not.1 h2;rw[kp] at h3;exact⟨h3,Decidable.not_not.1 h1,I⟩
theorem te {l:List Cl}{e:Ed}(h:(c4 l e).1=0):Rt (c4 l e).2∧(aN l).2=0∧cj (aa l) e=0∧(c4 l e).2=aa (c8 (aa l) e):=by
 unfold c4 at h ⊢;split at h
 ·rename_i h1;rw[zg4 h1];obtain ⟨h2,h3,h4⟩:=uu h;exact⟨h2,h1,h3,h4⟩
 ·cases h
theorem vn {l:List Cl}{e:Ed}(h:(c4 l e).1≠0):(c4 l e).2=[]:=by
 unfold c4 at h ⊢;split at h
 ·rename_i h1;rw[zg4 h1];unfold aW at h ⊢;split at h
  ·rename_i h2; rw[zg4 h2]
  ·rename_i h2;rw[zg3 h2];split at h
   ·rename_i h3; rw[zg4 h3]
   ·exact absurd I h
 ·rename_i h1; rw[zg3 h1]
theorem jm (l:List Cl)(e:Ed):bo (c4 l e).2:=by
 by_cases h:(c4 l e).1=0
 ·exact (te h).1.fits
 ·rw[vn h]; exact⟨by simp,by simp⟩
theorem AJ (l:List Cl)(e:Ed):(c4 l e).2.length≤4000:=by
 by_cases h:(c4 l e).1=0
 ·exact (te h).1.few
 ·rw[vn h]; simp
end Go.Proofs.YtackilpikhkijaaGreatDoor
