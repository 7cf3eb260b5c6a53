/- 7 -/
import Derived.Test.YtmmghffoakhheaaGreatDoorRe06
import Derived.Test.YtmmghffoakhheaaGreatDoorRows
import Derived.WalkKit
import Derived.ProofKit
import Derived.OpenShut
import Derived.ShutString
import Derived.ChangeOld
import Derived.Deep.Slices
import Derived.Lib.SmallJoins
import Derived.Laws.IdiomArrays
import Derived.SizedLaws
set_option linter.unusedSimpArgs false
set_option linter.unusedVariables false
namespace Go.Proofs.YtmmghffoakhheaaGreatDoor
open _root_.Go.Proofs.Tryz _root_.Go.Proofs.YtmmghffoakhheaaGreatDoor.Tryz
open Go Go.Sy Go.Pl Go.Proofs
set_option maxRecDepth 100000
abbrev eG (l:List (List Int)):Prop:=l.Pairwise fun a b=>aC a b<0
theorem ik {a b:List Int}(h:aC a b<0):¬ aC b a<0:=by have:=i7 a b; omega
theorem eG.srt {l:List (List Int)}(h:eG l):A5 l:=h.imp fun h=>ik h
theorem ig:∀ {l m:List (List Int)},eG l→eG m→(∀ x,x∈l↔x∈m)→l=m
 | [],[],_,_,_=>rfl
 | [],y::m,_,_,h=>by have:=(h y).2 (by simp); simp at this
 | x::l,[],_,_,h=>by have:=(h x).1 (by simp); simp at this
 | x::l,y::m,hl,hm,h=>by
  obtain ⟨h1,h2⟩:=zk4.1 hl;obtain ⟨h3,h4⟩:=zk4.1 hm;have hxy:x=y:=by
   rcases zf1.1 ((h x).1<|by simp) with e | hx
   ·exact e
   ·rcases zf1.1 ((h y).2<|by simp) with e | hy
    ·exact e.symm
    ·exact absurd (h1 y hy)<|ik<|h3 x hx
  subst hxy;have hself:¬ aC x x<0:=by rw[c8]; decide
  rw[ig h2 h4 fun z=>?_];constructor
  ·intro hz
   rcases zf1.1 ((h z).1<|by simp[hz]) with e | hz'
   ·subst e; exact absurd (h1 z hz) hself
   ·exact hz'
  ·intro hz
   rcases zf1.1 ((h z).2<|by simp[hz]) with e | hz'
   ·subst e; exact absurd (h3 z hz) hself
   ·exact hz'
theorem hZ:∀ {x:List Int} {l:List (List Int)},A5 (x::l)→eG (fL eqL x l)∧(∀ y∈fL eqL x l,aC x y<0)∧∀ y,y∈l→y=x∨y∈fL eqL x l
 | x,[],_=>⟨List.Pairwise.nil,by simp[fL],by simp⟩
 | x,y::r,h=>by
  obtain ⟨h1,h2⟩:=zk4.1 h;obtain ⟨i1,i2,i3⟩:=hZ h2;have hxy:=h1 y (by simp);unfold fL;by_cases e:y=x
  ·subst e;simp only[eqL,decide_true,if_true];refine⟨i1,i2,fun z hz=>?_⟩
   rcases zf1.1 hz with rfl | hz
   ·exact .inl I
   ·exact i3 z hz
  ·have hlt:aC x y<0:=by
    rcases ew x y with h | h | h
    ·exact h
    ·exact absurd h.symm e
    ·exact absurd h hxy
   simp only[eqL,e,decide_false];refine⟨zk4.2 ⟨i2,i1⟩,fun z hz=>?_,fun z hz=>?_⟩
   ·rcases zf1.1 hz with rfl | hz
    ·exact hlt
    ·exact fB _ _ _ hlt<|i2 z hz
   ·rcases zf1.1 hz with rfl | hz
    ·exact .inr (by simp)
    ·rcases i3 z hz with rfl | h
     ·exact .inr (by simp)
     ·refine .inr ?_;simp;exact .inr h
theorem ko (all:List (List Int))(t:List Int):eG (iV all t):=by
 have hs:=nz<|all++dD t;unfold iV;cases h:rH (all++dD t) with
 | nil=>exact List.Pairwise.nil
 | cons x r =>
  rw[h] at hs;obtain ⟨h1,h2,_⟩:=hZ hs;exact zk4.2 ⟨h2,h1⟩
theorem je (all:List (List Int))(t x:List Int):x∈iV all t↔x∈all∨x∈dD t:=by
 refine⟨oT,fun h=>?_⟩;have hs:=nz<|all++dD t;have hm:x∈rH (all++dD t):=(l9 _).symm.subset<|zf3.2 h;unfold iV;cases hc:rH (all++dD t) with
 | nil=>rw[hc] at hm; simp at hm
 | cons y r =>
  rw[hc] at hs hm
  rcases zf1.1 hm with rfl | hm
  ·simp[yo]
  ·rcases (hZ hs).2.2 x hm with rfl | h
   ·simp[yo]
   ·simp[yo,h]
theorem nF:∀ {l:List (List Int)} (t:List Int),A5 l→(∀ y∈l.take (lbL l t),aC y t<0)∧∀ y∈l.drop (lbL l t),¬ aC y t<0
 | [],t,_=>⟨by simp,by simp⟩
 | a::r,t,hs=>by
  obtain ⟨h1,h2⟩:=zk4.1 hs;obtain ⟨i1,i2⟩:=nF t h2;by_cases ha:aC a t<0
  ·have hl:lbL (a::r) t=lbL r t+1:=by simp[lbL,ha]
   rw[hl,List.take_succ_cons,List.drop_succ_cons];refine⟨fun y hy=>?_,i2⟩
   rcases zf1.1 hy with rfl | hy
   ·exact ha
   ·exact i1 y hy
  ·have hall:∀ y∈a::r,¬ aC y t<0:=fun y hy=>by
    rcases zf1.1 hy with rfl | hy
    ·exact ha
    ·exact jT y a t (h1 y hy) ha
   have hz:lbL (a::r) t=0:=by
    unfold lbL;rw[List.length_eq_zero_iff,List.filter_eq_nil_iff];intro y hy;simpa using hall y hy
   rw[hz];exact⟨by simp,by simpa using hall⟩
theorem vy {l:List (List Int)}{t:List Int}(hs:eG l)(hn:l.contains t=false):eG (l.take (lbL l t)++t::l.drop (lbL l t)):=by
 obtain ⟨h1,h2⟩:=nF t hs.srt;have hs':eG (l.take (lbL l t)++l.drop (lbL l t)):=by rw[zj2]; exact hs
 have h3:=List.pairwise_append.1 hs';refine List.pairwise_append.2 ⟨h3.1,zk4.2 ⟨fun y hy=>?_,h3.2.1⟩,fun y hy z hz=>?_⟩
 ·rcases ew t y with h | h | h
  ·exact h
  ·have:l.contains t=true:=by rw[h]; simpa using List.mem_of_mem_drop hy
   rw[hn] at this; cases this
  ·exact absurd h<|h2 y hy
 ·rcases zf1.1 hz with rfl | hz
  ·exact h1 y hy
  ·exact h3.2.2 y hy z hz
theorem Bw (all:List (List Int)):Srt Cl.id (bV all):=by
 unfold Srt;rw[zc9];intro i j hi hj hij;simp[bV,m5];omega
theorem qF (all:List (List Int)):aa (bV all)=(bV all).map dn:=by
 unfold aa;rw[← bG (Bw all) (aA.refl _)]
theorem Bp (k:Nat):((k:Nat):Int).tmod 2=((k:Nat):Int) % 2:=Int.tmod_eq_emod_of_nonneg oM
theorem gY (E:World)(g:PH)(s:Own)(v:Value)(ls:List (List Int))(hv:f9 g v ls)(hn:ls.length<1099511627776)(hl:∀ x∈ls,x.length<17592186044416) :
  Ctr Tryz.prog E 58 #[v] g s (fun r g' s'=>s=s'∧Le g g'∧∃ u,r = .agg #[u]∧ak g' u (fZ ls)):=by
 obtain ⟨rs0,hrs0,hall0⟩:=hv;have hlen0:=hall0.length;obtain ⟨p,c,rfl⟩:=za3 hrs0;refine zb1 (args:=[.slice p rs0.length c]) func58 I ntmps58 (bE I)<|rZ (bW (aL zl6) fun b2=>?_);refine tZ<|rZ<|aT I<|sQ<|rZ<|aT I<|bK<|SC.loop (ι:=PH×Value×List (List Int)×Nat) (fun i=>[(0,.slice p rs0.length c),(2,pp b2 0),(3,i.2.1),(4,vi i.2.2.2)]) (fun i=>i.1)
  (fun _=>pt b2 (.cells #[.slice none 0 0] 29 (0,0))::s)
  (fun i=>Le g i.1∧i.2.2.2≤rs0.length∧f9 i.1 i.2.1 i.2.2.1∧(i.2.2.1.length≤4000∧∀ x∈i.2.2.1,x.length≤9)∧eG i.2.2.1∧cE [] ls=cE i.2.2.1 (ls.drop i.2.2.2)) (fun i=>rs0.length - i.2.2.2)
  (g,.slice none 0 0,[],0) sB rfl rfl ⟨zb8 g,zf6 _,⟨[],zb9 g _,trivial⟩,⟨zf6 _,by simp⟩,List.Pairwise.nil,rfl⟩ ?_
 rintro ⟨g1,av,all,i⟩ ⟨hle,hi,hav,⟨hal,has⟩,hstr,hsa⟩;dsimp only at hle hi hav hal has hstr hsa ⊢;refine sQ<|sW I<|lM I<|lU (eN fX I)<|yL I<|tZ<|iP I (fun hlt=>?_) (fun hlt=>?_)
 ·have hkl:i<ls.length:=oM;have hkr:i<rs0.length:=oM;have hR:=(hall0.get (gE hkl)<|gE hkr).mono hle;have hxl:=hl _<|gM hkl;have hb1:=hrs0.based oM;have hdrop:ls.drop i=ls[i]::ls.drop (i+1):=zg6 hkl;rw[hdrop] at hsa;generalize hx:ls[i]=x at *;generalize hr:rs0[i]=r at *;have hgr:rs0[((i:Nat):Int).toNat]?=some r:=by rw[← hr]; exact gE hkr
  refine kP<|tN<|sQ<|bK<|sW I<|lM I<|lU (iA fX mS I I hb1 oM sL)<|lK (eB pC I (hrs0.mono hle).rd hgr I)<|lW (SO.call call94 I<|BB E g1 _ _ x hR hxl) ?_;rintro v31 g2 _ ⟨rfl,hle2,hset⟩;have hav2:=hav.mono hle2
  rcases hset with ⟨hok,u,rfl,hu⟩ | ⟨hok,rfl⟩
  ·obtain ⟨hs9,hsb⟩:=BM hok;obtain ⟨q,d,rfl⟩:=za3 hu;have hpow:=Ef (eo x).length hs9;refine lM I<|yX I<|yX I<|lA I<|aT I<|SC.cut (ι:=PH×Value×List (List Int)) (fun j=>[(0,.slice p rs0.length c),(2,pp b2 0),(3,j.2.1),(4,vi i)]) (fun j=>j.1) (fun _=>pt b2 (.cells #[.slice none 0 0] 29 (0,0))::s)
    (fun j=>Le g j.1∧f9 j.1 j.2.1 j.2.2∧eG j.2.2∧(∀ y,y∈j.2.2↔y∈all∨y∈dD (eo x))∧j.2.2.length≤4600) ?_ ?_
   ·refine rZ<|aT I<|bK<|SC.loop (ι:=PH×Value×List (List Int)×Nat) (fun j=>[(0,.slice p rs0.length c),(2,pp b2 0),(3,j.2.1),(4,vi i),(5,.slice q (eo x).length d),(6,vb true),(7,vi (j.2.2.2+1:Nat))]) (fun j=>j.1) (fun _=>pt b2 (.cells #[.slice none 0 0] 29 (0,0))::s)
     (fun j=>Le g2 j.1∧j.2.2.2+1≤2 ^ (eo x).length∧f9 j.1 j.2.1 j.2.2.1∧eG j.2.2.1∧(∀ y,y∈j.2.2.1↔y∈all∨y∈(List.range j.2.2.2).map fun m=>f7 (m+1)<|eo x)∧j.2.2.1.length≤4000+j.2.2.2) (fun j=>2 ^ (eo x).length - j.2.2.2)
     (g2,av,all,0) sB rfl rfl ⟨zb8 g2,Nat.one_le_two_pow,hav2,hstr,by simp,lN⟩ ?_
    rintro ⟨g3,bv,al,b⟩ ⟨hle3,hb,hbv,hbs,hbm,hbl⟩;dsimp only at hle3 hb hbv hbs hbm hbl ⊢;have hals:∀ y∈al,y.length≤9:=fun y hy=>by
     rcases (hbm y).1 hy with h | h
     ·exact has y h
     ·obtain ⟨m,_,rfl⟩:=zf2.1 h;exact zk8 (gW _ _) hs9
    refine sQ<|sW I<|lM I<|yC I<|yC I<|lY I I I (eN aG I)<|lY I I I (SU.eq (v':=vi ((2 ^ (eo x).length:Nat):Int)) (SU.shl I I oM)<|ze2 vi<|Dd (eo x).length oM)<|lY I I I (lS I I)<|yP I<|tZ<|iP I (fun hlt2=>?_) (fun hlt2=>?_)
    ·have hbl2:b+1<2 ^ (eo x).length:=oM;refine kP<|tN<|sQ<|bK<|rZ<|aT I<|sQ<|sQ<|zb5 3 1<|rG<|aT I<|bK<|SC.loop (ι:=Value×Nat) (fun k=>[(0,.slice p rs0.length c),(2,pp b2 0),(3,bv),(4,vi i),(5,.slice q (eo x).length d),(6,vb true),(7,vi (b+1:Nat)),(8,k.1),(9,vi k.2)]) (fun _=>g3)
      (fun k=>rowA ae 3 k.1 (f7 (b+1)<|(eo x).take k.2)::pt b2 (.cells #[.slice none 0 0] 29 (0,0))::s) (fun k=>k.2≤(eo x).length) (fun k=>(eo x).length - k.2) (.slice none 0 0,0)
      sB rfl rfl (zf6 _) ?_
     rintro ⟨cv,k⟩ hk;dsimp only at hk ⊢;have hpl:=gW (b+1)<|(eo x).take k;rw[ze4] at hpl;refine sQ<|sW I<|lM I<|lU (eN aG I)<|yL I<|tZ<|iP I (fun hlt3=>?_) (fun hlt3=>?_)
     ·have hkl:k<(eo x).length:=oM;have hbu:=za5 (hu.mono hle3) oM;have hsucc:=xA (bits:=b+1) hkl;refine kP<|tN<|sQ<|bK<|sW I<|lM I<|lU (SU.shr I I oM)<|lU (SU.eq (v':=vi (((b+1) / 2 ^ k % 2:Nat):Int)) (SU.and I I)<|ze2 vi<|(zn _).trans<|Dc (b+1) k oM)<|yE I<|tZ<|iP I (fun hbit=>?_) (fun hbit=>?_)
      ·refine rG<|lM I<|lM I<|lM I<|lU (iA aG zT3 I I hbu oM sL)<|SL.q (eB iT3 I (za6<|hu.mono hle3) (gE hkl) I) dC<|lW (bS sty22 I I I (ab sB) dC) ?_;rintro _ _ _ ⟨b60,rfl,rfl,rfl⟩;refine lW (aP (e:=ae) 0 (eo x)[k] sty22 I I I I I oM oM) ?_;rintro cv' _ _ ⟨rfl,rfl⟩;refine lA I<|nL<|bN<|tN<|rG<|lM I<|yD I<|lA I<|nL ?_;refine ST.to (fun w hw=>?_) (g':=g3) (s':=rowA ae 3 cv' (f7 (b+1)<|(eo x).take<|k+1)::pt b2 (.cells #[.slice none 0 0] 29 (0,0))::s) ?_
       ·rw[hsucc,zg1 oM]; exact hw
       exact ST.again (cv',k+1) sB I I lN lN
      ·refine kP<|bN<|tN<|rG<|lM I<|yD I<|lA I<|nL ?_;refine ST.to (fun w hw=>?_) (g':=g3) (s':=rowA ae 3 cv (f7 (b+1)<|(eo x).take<|k+1)::pt b2 (.cells #[.slice none 0 0] 29 (0,0))::s) ?_
       ·rw[hsucc,zf9 oM]; exact hw
       exact ST.again (cv,k+1) sB I I lN lN
     ·have hkk:(eo x).take k=eo x:=tL oM;have htl:=gW (b+1)<|eo x;have hmem2:∀ nw:List (List Int),(∀ y,y∈nw↔y=f7 (b+1) (eo x)∨y∈al)→∀ y,y∈nw↔y∈all∨y∈(List.range<|b+1).map fun m=>f7 (m+1) (eo x):=fun nw h y=>by
       rw[h,hbm,List.range_succ,zg5,zf3];simp;constructor
       ·rintro (h | h | h)
        ·exact .inr<|.inr h
        ·exact .inl h
        ·exact .inr<|.inl h
       ·rintro (h | h | h)
        ·exact .inr<|.inl h
        ·exact .inr<|.inr h
        ·exact .inl h
      generalize hpk:f7 (b+1) (eo x)=t at *;refine xI (tX<|tX<|bX<|tN<|sQ<|fS fun g4 hle4 hs4=>?_);rw[hkk,hpk] at hs4;have ht:dJ g4 cv t:=hs4;have hbv4:=hbv.mono hle4;refine rG<|lM I<|lM I<|lW (SO.call call95 I<|qe E g4 _ _ _ al t hbv4 ht oM (fun y hy=>by have:=hals y hy; omega) oM hbs.srt) ?_;rintro _ _ _ ⟨rfl,rfl,rfl⟩;refine lM I<|yX I<|yX I<|lA I<|aT I<|sW I<|lU (SU.not I)<|tZ<|iQ I (fun hthere=>?_) (fun hthere=>?_)
      ·have hth:al.contains t=false:=by simpa using hthere
       have hlb:=CD al t;obtain ⟨ra,hra,halr⟩:=hbv4;have hral:=halr.length;obtain ⟨qa,da,rfl⟩:=za3 hra;have hcapa:=(SlA.cap hra).2;obtain ⟨qt,dt,rfl⟩:=za3 ht;have hca:=SlA.cut hra (l:=lbL al t) (m:=ra.length) oM<|lR _;have hcb:=SlA.cut hra (l:=0) (m:=lbL al t) (zf6 _) oM;rw[tL (by rw[ze9]; exact lR _)] at hca;rw[List.drop_zero,Nat.sub_zero] at hcb;refine sW I<|lW (bS sty108 I I I (ab ⟨I,trivial⟩) dC) ?_;rintro _ _ _ ⟨b71,rfl,rfl,rfl⟩;refine SL.to (fun w hw=>At.litRow (e:=cR) (l:=[⟨qt,t.length,dt⟩]) (n:=0) hw I I dC) ?_;refine lM I<|lM I<|lU (SU.sliceL fX mS I I oM oM)<|lW (aQ (e:=cR) 0 sty108 I I I hca (by rw[ze9]; (first | with_reducible rfl | ((try dsimp only); (try simp only[ze5,ze8,zc4,ze7,ze4,ze9])<;>omega))) (by rw[ze9]; (first | with_reducible rfl | ((try dsimp only); (try simp only[ze5,ze8,zc4,ze7,ze4,ze9])<;>omega)))) ?_;rintro v75 _ _ ⟨rfl,rfl⟩;refine aT I (fS fun g5 hle5 hs5=>?_);have hrest:SlA cR g5 v75 ([⟨qt,t.length,dt⟩]++ra.drop (lbL al t)):=hs5;refine rG<|lW (bS sty108 I I I (ab trivial) dC) ?_;rintro _ _ _ ⟨b76,rfl,rfl,rfl⟩;refine SL.emptyRow 22 1 (some ⟨b76,0,none⟩)<|lM I<|lM I<|lU (SU.sliceH fX mS I I oM oM)<|lW (aQ (e:=cR) (l:=[]) 0 sty108 I I I (hcb.mono hle5) (by rw[ze4]; (first | with_reducible rfl | ((try dsimp only); (try simp only[ze5,ze8,zc4,ze7,ze4,ze9])<;>omega))) (by rw[ze4]; (first | with_reducible rfl | ((try dsimp only); (try simp only[ze5,ze8,zc4,ze7,ze4,ze9])<;>omega)))) ?_;rintro v80 _ _ ⟨rfl,rfl⟩;refine lM I<|lW (aQ (e:=cR) 0 sty108 I I I hrest lN lN) ?_;rintro v82 _ _ ⟨rfl,rfl⟩;refine lA I (nL<|bN<|tN<|rG<|lM I<|yD I<|lA I<|nL<|fT fun g6 hle6 hs6=>?_);refine dR (s':=pt b2 (.cells #[.slice none 0 0] 29 (0,0))::s) (.cons _<|.refl _) ?_;have hres:f9 g6 v82 (al.take (lbL al t)++t::al.drop (lbL al t)):=by
        refine⟨ra.take (lbL al t)++⟨qt,t.length,dt⟩::ra.drop (lbL al t),?_,?_⟩
        ·have h:SlA cR g6 v82 ([]++ra.take (lbL al t)++([⟨qt,t.length,dt⟩]++ra.drop (lbL al t))):=hs6;simpa using h
        ·exact ((az.take _ halr).mono fun _ _=>dh.mono<|hle5.trans hle6).append ⟨ht.mono<|hle5.trans hle6,(az.drop _ halr).mono fun _ _=>dh.mono<|hle5.trans hle6⟩
       exact ST.again (g6,v82,al.take (lbL al t)++t::al.drop (lbL al t),b+1) ⟨I,I,I,I,I,I,aU (by simp),trivial⟩ I I ⟨hle3.trans<|hle4.trans<|hle5.trans hle6,hbl2,hres,vy hbs hth,hmem2 _ (fun y=>yW),lN⟩ lN
      ·have hth:t∈al:=by simpa using hthere
       exact kP<|bN<|tN<|rG<|lM I<|yD I<|lA I<|nL<|ST.again (g4,bv,al,b+1) ⟨I,I,I,I,I,I,aU (by simp),trivial⟩ I I ⟨hle3.trans hle4,hbl2,hbv4,hbs,hmem2 _ (fun y=>⟨.inr,fun h=>h.elim (fun e=>by rw[e]; exact hth) id⟩),lN⟩ lN
    ·have hbb:b=2 ^ (eo x).length - 1:=oM;exact xI<|tX<|tX<|bX<|za8 (g3,bv,al) sB I I ⟨hle.trans<|hle2.trans hle3,hbv,hbs,fun y=>by dsimp only; rw[hbm]; unfold dD; rw[hbb],lN⟩
   ·rintro ⟨g3,bv,al⟩ ⟨hle3,hbv,hbs,hbm,hbl⟩;dsimp only at hle3 hbv hbs hbm hbl ⊢;have hals:∀ y∈al,y.length≤9:=fun y hy=>by
     rcases (hbm y).1 hy with h | h
     ·exact has y h
     ·exact kh hs9 y h
    have key:((al.length:Int)>4000→cE [] ls=none)∧(¬ (al.length:Int)>4000→cE [] ls=cE al (ls.drop<|i+1)):=by
     by_cases hb:lV (eo x)=true
     ·have he:=hsb hb;have hal2:al=all:=ig hbs hstr fun y=>by rw[hbm,he]; simp[dD]
      refine⟨fun h=>by rw[hal2] at h; omega,fun _=>by rw[hsa,cE,zg1 hb,hal2]⟩
     ·have hal2:al=iV all (eo x):=ig hbs (ko _ _) fun y=>by rw[hbm,je]
      refine⟨fun h=>by rw[hsa,cE,zf9 hb,zg1 (by rw[← hal2]; exact h)],fun h=>by rw[hsa,cE,zf9 hb,zf9 (by rw[← hal2]; exact h),← hal2]⟩
    obtain ⟨ra,hra,halr⟩:=hbv;have hbv:f9 g3 bv al:=⟨ra,hra,halr⟩;have hral:=halr.length;obtain ⟨qa,da,rfl⟩:=za3 hra;refine sW I<|lU (eN fX I)<|lU (gR I I)<|tZ<|iP I (fun hmany=>?_) (fun hmany=>?_)
    ·exact rZ<|lU (za2 I<|buildE29)<|oZ (sK 0 ag I I I I I sB)<|tZ<|rE<|bR<|tR<|tR<|bR<|tR<|ST.retCD 0 s (.inl I) results58 I ar ag I I uR ⟨I,hle3,_,I,by simp only[fZ,key.1 oM]; exact⟨[],zb9 _ _,trivial⟩⟩
    ·exact kP<|bN<|tN<|rG<|lM I<|yD I<|lA I<|nL<|ST.again (g3,_,al,i+1) sB I I ⟨hle3,lN,hbv,⟨lN,hals⟩,hbs,key.2 oM⟩ lN
  ·have hb:=Dx hok;obtain ⟨ra,hra,halr⟩:=hav2;have hav2:f9 g2 av all:=⟨ra,hra,halr⟩;have hral:=halr.length;obtain ⟨qa,da,rfl⟩:=za3 hra;refine lM I<|yX I<|yX I<|lA I<|aT I<|sQ<|rZ<|aT I<|bK<|SC.loop (ι:=Unit) (fun _=>[(0,.slice p rs0.length c),(2,pp b2 0),(3,.slice qa ra.length da),(4,vi i),(5,.slice none 0 0),(6,vb false),(7,vi 1)]) (fun _=>g2) (fun _=>pt b2 (.cells #[.slice none 0 0] 29 (0,0))::s) (fun _=>True) (fun _=>0) () sB I I trivial ?_;rintro ⟨⟩ -;refine sQ<|sW I<|lM I<|yA I<|yA I<|yA I<|yA I<|yA I<|yF I<|tZ<|cF I<|xI<|tX<|tX<|bX<|tN<|sW I<|lU (eN fX I)<|lU (gR I I)<|tZ<|iP I (fun hmany=>?_) (fun hmany=>?_)
   ·exfalso;omega
   ·exact kP<|bN<|tN<|rG<|lM I<|yD I<|lA I<|nL<|ST.again (g2,_,all,i+1) sB I I ⟨hle.trans hle2,lN,hav2,⟨hal,has⟩,hstr,by dsimp only; rw[hsa,cE,zg1 hb]⟩ lN
 ·have hk0:i=rs0.length:=oM;have hsome:cE [] ls=some all:=by rw[hsa,hk0,← hlen0,List.drop_length]; rfl
  obtain ⟨rs,hrs,hall⟩:=hav;have hav:f9 g1 av all:=⟨rs,hrs,hall⟩;have hrl:=hall.length;obtain ⟨q,d,rfl⟩:=za3 hrs;refine xI (tX<|tX<|bX<|tN<|rZ<|bW (aL zl6) fun b13=>?_);refine tZ<|sQ<|rZ<|aT I<|bK<|zb5 54 3<|SC.loop (ι:=PH×Value×List Rc×Nat) (fun i=>[(2,pp b2 0),(3,.slice q rs.length d),(13,pp b13 0),(14,vi i.2.2.2)]) (fun i=>i.1)
   (fun i=>rowA encCell 54 i.2.1 i.2.2.1::pt b13 (.cells #[i.2.1] 29 (0,0))::pt b2 (.cells #[.slice none 0 0] 29 (0,0))::s)
   (fun i=>Le g1 i.1∧i.2.2.2≤rs.length∧az (ay i.1) (((bV all).take i.2.2.2).map dn) i.2.2.1) (fun i=>rs.length - i.2.2.2)
   (g1,.slice none 0 0,[],0) sB rfl rfl ⟨zb8 g1,zf6 _,trivial⟩ ?_
  rintro ⟨g3,ov,rcs,n⟩ ⟨hle3,hn3,hrcs⟩;dsimp only at hle3 hn3 hrcs ⊢;have hrcl:=hrcs.length;rw[ze6,ze4,dE] at hrcl;refine sQ<|sW I<|lM I<|lU (eN fX I)<|yL I<|tZ<|iP I (fun hlt2=>?_) (fun hlt2=>?_)
  ·have hnl:n<all.length:=oM;have hnr:n<rs.length:=oM;have hb1:=hrs.based oM;have hR:=(hall.get (gE hnl)<|gE hnr).mono hle3;have hRl:=hR.len;have hx9:=has _<|gM hnl;have hget:=lj hnl;generalize hx:all[n]=x at *;generalize hr:rs[n]=r at *;obtain ⟨rp,rn,rc⟩:=r;dsimp only at hRl;subst hRl;have hxs:dJ g3 (.slice rp x.length rc) x:=hR;have hgr:rs[((n:Nat):Int).toNat]?=some ⟨rp,x.length,rc⟩:=by rw[← hr]; exact gE hnr
   refine kP (tN<|sQ<|bK<|sW I<|yD I<|lM I<|lM I<|lU (iA fX mS I I hb1 oM sL)<|lK (eB (u:=.slice rp x.length rc) pC I (hrs.mono hle3).rd hgr I)<|lU (eN aG I)<|lU (sU I I oM)<|lU (za2 I<|buildC54 _ _)<|bW (aL zl3) fun b15=>?_);refine oZ (sK 0 au I I I I I sB)<|tZ<|SC.cut (ι:=PH×Value) (fun i=>[(2,pp b2 0),(3,.slice q rs.length d),(13,pp b13 0),(14,vi n),(15,pp b15 0)]) (fun i=>i.1)
    (fun i=>rowA encSide 56 i.2 (bu all x x.length)::pt b15 (.cells #[vi<|(n:Int)+1,vi<|(x.length:Int) - 1,i.2] 54 (0,0))::rowA encCell 54 ov rcs::pt b13 (.cells #[ov] 29 (0,0))::pt b2 (.cells #[.slice none 0 0] 29 (0,0))::s)
    (fun i=>Le g3 i.1) ?_ ?_
   ·refine sQ<|zb5 56 2<|rG<|aT I<|bK<|SC.loop (ι:=PH×Value×Nat) (fun i=>[(2,pp b2 0),(3,.slice q rs.length d),(13,pp b13 0),(14,vi n),(15,pp b15 0),(16,vi i.2.2)]) (fun i=>i.1)
     (fun i=>rowA encSide 56 i.2.1 (bu all x i.2.2)::pt b15 (.cells #[vi<|(n:Int)+1,vi<|(x.length:Int) - 1,i.2.1] 54 (0,0))::rowA encCell 54 ov rcs::pt b13 (.cells #[ov] 29 (0,0))::pt b2 (.cells #[.slice none 0 0] 29 (0,0))::s)
     (fun i=>Le g3 i.1∧i.2.2≤x.length) (fun i=>x.length - i.2.2)
     (g3,.slice none 0 0,0) sB rfl rfl ⟨zb8 g3,zf6 _⟩ ?_
    rintro ⟨g4,sv,j⟩ ⟨hle4,hj⟩;dsimp only at hle4 hj ⊢;have hssl:=fQ all x j;have hsucc:=ii all x j;have hxs4:dJ g4 (.slice rp x.length rc) x:=hxs.mono hle4;by_cases hjl:j<x.length
    ·have hjd:((j:Nat):Int)<((x.length:Nat):Int):=oM;by_cases hdim:((x.length:Int) - 1)>0
     ·have hel:(x.eraseIdx j).length=x.length - 1:=by rw[List.length_eraseIdx]; simp[hjl]
      have hside:iJ all x j=[⟨lbL all (x.eraseIdx j)+1,j4 j⟩]:=by unfold iJ; rw[zg1 oM]
      have hlb:=CD all<|x.eraseIdx j;rw[hside] at hsucc;have hcap:=(SlA.cap hxs4).2;have hc1:=SlA.cut hxs4 (l:=0) (m:=j) oM oM;have hc2:=SlA.cut hxs4 (l:=j+1) (m:=x.length) oM oM;have he1:(x.drop 0).take (j - 0)=x.take j:=by simp
      have he2:(x.drop<|j+1).take (x.length - (j+1))=x.drop (j+1):=tL (by rw[ze9]; omega);rw[he1] at hc1;rw[he2] at hc2;have her:[]++x.take j++x.drop (j+1)=x.eraseIdx j:=by rw[List.eraseIdx_eq_take_drop_succ]; simp
      have hcl1:([]++x.take j).length=j:=by simp; omega
      refine sQ<|sW I<|lM I<|lM I<|lU (iA fX mS I I hb1 oM sL)<|lK (eB (u:=.slice rp x.length rc) pC I (hrs.mono<|hle3.trans hle4).rd hgr I)<|lU (eN aG I)<|lU (SU.eq (v':=vb true) (lS I I)<|ze2 vb<|zf8 hjd)<|lM I<|lY I I I (fA aw I zT3 I)<|SL.gq (gT I I I dC) (qL (v:=vi<|(x.length:Int) - 1) iT3 I<|cO 1 I I) dC<|lY I I I (SU.eq (v':=vb true) (gR I I)<|ze2 vb<|zf8 hdim)<|yP I<|tZ<|za1 I<|kP<|tN<|sQ<|bK<|sQ<|dW [15] [(1,2),(2,2),(3,2),(4,1),(5,2),(6,2),(8,2),(9,2),(10,2),(11,1),(12,2),(13,2),(14,2),(0,0),(7,0),(15,0),(16,2)] ze3 kR<|yM I<|yM I<|pU I (iA fX mS I I hb1 oM sL)<|pK I (eB (u:=.slice rp x.length rc) pC I (hrs.mono<|hle3.trans hle4).rd hgr I)<|yM I<|pU I (SU.sliceH aG zT3 I I oM oM)<|yM I<|yM I<|pU I (iA fX mS I I hb1 oM sL)<|pK I (eB (u:=.slice rp x.length rc) pC I (hrs.mono<|hle3.trans hle4).rd hgr I)<|yM I<|pU I (aD I I oM)<|pU I (SU.eq (v':=sliced rp (j+1) x.length rc 1) (SU.sliceL aG zT3 I I oM oM)<|by rw[show ((j:Int)+1).toNat=j+1 by omega]) ?_;refine SP.o I (bS sty22 I I I (ab trivial) dC) dC (.inr iR) ?_;rintro _ _ _ ⟨b116,rfl,rfl,rfl⟩;refine SP.to (fun w hw=>hw.emptyRow 3 1<|some ⟨b116,0,none⟩) ?_;refine SP.o I (aQ (e:=ae) (l:=[]) 0 sty22 I I I hc1 (by rw[ze4]; (first | with_reducible rfl | ((try dsimp only); (try simp only[ze5,ze8,zc4,ze7,ze4,ze9])<;>omega))) (by rw[ze4]; (first | with_reducible rfl | ((try dsimp only); (try simp only[ze5,ze8,zc4,ze7,ze4,ze9])<;>omega)))) dC (.inr iR) ?_;rintro v123 _ _ ⟨rfl,rfl⟩;refine SP.o I (aQ (e:=ae) 0 sty22 I I I hc2 (by rw[ze9,hcl1]; omega) (by rw[ze9,hcl1]; omega)) dC (.inl dC) ?_;rintro v131 _ _ ⟨rfl,rfl⟩;refine pU I (aS I) (pN<|tN<|sQ<|fS fun g6 hle6 hs6=>?_);have hrest:dJ g6 v131 (x.eraseIdx j):=(by rw[← her]; exact hs6);refine SC.drop (s':=rowA encSide 56 sv (bu all x j)::pt b15 (.cells #[vi<|(n:Int)+1,vi<|(x.length:Int) - 1,sv] 54 (0,0))::rowA encCell 54 ov rcs::pt b13 (.cells #[ov] 29 (0,0))::pt b2 (.cells #[.slice none 0 0] 29 (0,0))::s) (.cons _<|.refl _)<|rG<|lM I<|lM I<|lW (SO.call call95 I<|qe E g6 _ _ _ all (x.eraseIdx j) (hav.mono<|hle3.trans<|hle4.trans hle6) hrest oM (fun y hy=>by have:=has y hy; omega) oM hstr.srt) ?_;rintro _ _ _ ⟨rfl,rfl,rfl⟩;refine lM I<|yX I<|yX I<|lA I<|aT I<|rG<|lU (fA aw I aO I)<|lK (qL (v:=sv) bh I<|cO 1 I I)<|lM I<|yD I<|lM I<|lU (SU.eq (v':=vi<|(j:Int) % 2) (zd8 I I dC)<|ze2 vi<|Bp j)<|lU (SU.mul I I oM)<|lU (SU.eq (v':=vi<|j4 j) (sU I I oM) I)<|lU (za2 I<|buildS56 _ _)<|lW (bS sty37 I I I (ab sB) dC) ?_;rintro _ _ _ ⟨b147,rfl,rfl,rfl⟩;refine lW (aP (e:=encSide) 0 ⟨lbL all (x.eraseIdx j)+1,j4 j⟩ sty37 I I I I I oM oM) ?_;rintro v148 _ _ ⟨rfl,rfl⟩;rw[← hsucc];refine zd3 fun ⟨w0,hw0⟩=>?_;obtain ⟨q148,d148,rfl⟩:=aj (i:=0) hw0 rfl;clear hw0 w0;refine lU (fA aw rfl aO rfl)<|oZ (SO.store1 1 aO rfl rfl rfl rfl (bE rfl)<|by rfl) ?_;refine nL<|bN<|tN<|rG<|lM I<|yD I<|lA I<|nL ?_;exact ST.again (g6,_,j+1) sB I I ⟨hle4.trans hle6,lN⟩ lN
     ·have hx1:x.length=1:=oM;have hj0:j=0:=oM;have hempty:bu all x x.length=bu all x j:=by
       rw[hx1,hj0];have h0:=ii all x 0;have hs0:iJ all x 0=[]:=by
        unfold iJ;rw[zf9];rw[List.length_eraseIdx];simp[hx1]
       rw[h0,hs0,zc6]
      rw[← hempty];exact sQ<|sW I<|lM I<|lM I<|lU (iA fX mS I I hb1 oM sL)<|lK (eB (u:=.slice rp x.length rc) pC I (hrs.mono<|hle3.trans hle4).rd hgr I)<|lU (eN aG I)<|lU (SU.eq (v':=vb true) (lS I I)<|ze2 vb<|zf8 hjd)<|lM I<|lY I I I (fA aw I zT3 I)<|SL.gq (gT I I I dC) (qL (v:=vi<|(x.length:Int) - 1) iT3 I<|cO 1 I I) dC<|lY I I I (SU.eq (v':=vb false) (gR I I)<|ze2 vb<|zf7 hdim)<|yP I<|tZ<|cF I<|xI<|tX<|tX<|bX<|za8 (g4,sv) sB I I hle4
    ·have hjd:¬ ((j:Nat):Int)<((x.length:Nat):Int):=oM;have hjj:j=x.length:=oM;subst hjj;exact sQ<|sW I<|lM I<|lM I<|lU (iA fX mS I I hb1 oM sL)<|lK (eB (u:=.slice rp x.length rc) pC I (hrs.mono<|hle3.trans hle4).rd hgr I)<|lU (eN aG I)<|lU (SU.eq (v':=vb false) (lS I I)<|ze2 vb<|zf7 hjd)<|lM I<|yA I<|yA I<|yA I<|yF I<|tZ<|cF I<|xI<|tX<|tX<|bX<|za8 (g4,sv) sB I I hle4
   ·rintro ⟨g4,sv⟩ hle4;dsimp only at hle4 ⊢;have hssl:=fQ all x x.length;refine rZ (fR fun g5 hle5 hs5=>?_);have hsd:SlA encSide g5 sv (bu all x x.length):=hs5;refine lU (fA aw I aO I)<|lK (qL (v:=sv) bh I<|cO 0 I I)<|lW (SO.call call96 I<|pR E g5 _ _ (bu all x x.length) hsd oM) ?_;rintro v152 g6 _ ⟨rfl,hle6,hs6⟩;obtain ⟨q6,d6,rfl⟩:=za3 hs6;obtain ⟨nc,hnc⟩:∃ nc:Rc,nc=⟨(n:Int)+1,(x.length:Int) - 1,⟨q6,(sortBy Side.cell<|bu all x x.length).length,d6⟩⟩:=⟨_,rfl⟩;refine lU (fA aw rfl aO rfl)<|oZ (SO.store1 0 aO rfl rfl rfl rfl (bE rfl)<|by rfl) ?_;refine tZ<|rG<|lU (fA du I di I)<|lK (qL dU I<|cO 2 I I)<|lK (qV 0 bQ au I I I)<|lW (bS sty27 I I I (ab sB) dC) ?_;rintro _ _ _ ⟨b157,rfl,rfl,rfl⟩;refine lW (aP (e:=encCell) 1 nc sty27 I I I I (by rw[hnc]; rfl) oM oM) ?_;rintro v158 _ _ ⟨rfl,rfl⟩;refine zd3 fun ⟨w0,hw0⟩=>?_;obtain ⟨q158,d158,rfl⟩:=aj (i:=1) hw0 rfl;clear hw0 w0;refine lU (fA du I di I)<|oZ (sK 2 di I I I I I sB) ?_;refine nL<|bN<|tN<|rG<|lM I<|yD I<|lA I<|nL<|dR (s':=rowA encCell 54 (.slice q158 (rcs++[nc]).length d158) (rcs++[nc])::pt b13 (.cells #[.slice q158 (rcs++[nc]).length d158] 29 (0,0))::pt b2 (.cells #[.slice none 0 0] 29 (0,0))::s) (.cons _<|.refl _) ?_;refine ST.again (g6,_,rcs++[nc],n+1) sB I I ⟨hle3.trans<|hle4.trans<|hle5.trans hle6,lN,?_⟩ lN;dsimp only;rw[mA hget,zg5];exact (hrcs.mono fun _ _=>ay.mono<|hle4.trans<|hle5.trans hle6).append ⟨(by rw[hnc]; exact⟨I,I,hs6⟩),trivial⟩
  ·have hnn:n=rs.length:=oM;have htk:(bV all).take n=bV all:=tL (by rw[dE]; omega);rw[htk] at hrcs;refine xI (tX<|tX<|bX<|tN<|sQ<|fS fun g4 hle4 hs4=>?_);have hov:ak g4 ov (fZ ls):=(by simp only[fZ,hsome,qF]; exact⟨rcs,hs4,hrcs.mono fun _ _=>ay.mono hle4⟩);obtain ⟨q9,d9,rfl⟩:=hov.form;exact rG<|lK (qV 0 ar ag I I I)<|oZ (sK 1 ag I I I I I sB)<|tZ<|rE<|ST.retCD 1 s (.inl I) results58 I ar ag I I uR ⟨I,hle.trans<|hle3.trans hle4,_,I,hov⟩
set_option maxHeartbeats 2000000
end Go.Proofs.YtmmghffoakhheaaGreatDoor
namespace Go.Sy
open Go
section
variable {P:Program}{N:Nat}{E:World}{ops:Array Oper}{Q:Exit→Act→World→Prop}{g0:PH}{s0:Own}{tail:List Nat}{f:Fr}{g g':PH}{s s':Own}{L:Array Bool}{n:Nat}
theorem SX.to (h:∀ w,At E g s w→At E g' s' w)(hc:SX P N E ops Q g0 s0 tail L n f g' s'):SX P N E ops Q g0 s0 tail L n f g s:=fun a w h1 hcl ha hw hb=>hc a w h1 hcl ha (h w hw) hb
theorem SX.freezeRow {T:TypeId}{k m:Nat}{v:Value}{xs:List Value}(h:∀ g',Le g g'→Sl g' k v m xs→SX P N E ops Q g0 s0 tail L n f g' s):SX P N E ops Q g0 s0 tail L n f g (row T k v m xs::s):=fun a w h1 hcl ha hw hb=>by
 obtain ⟨g',h3,h4,h5⟩:=hw.freezeRow;exact h g' h3 h5 a w h1 hcl ha h4 hb
end
end Go.Sy
namespace Go.Proofs.YtmmghffoakhheaaGreatDoor
open _root_.Go.Proofs.Tryz _root_.Go.Proofs.YtmmghffoakhheaaGreatDoor.Tryz
open Go Go.Sy Go.Pl Go.Proofs
set_option maxRecDepth 100000
theorem gc {α β:Type}{l:List α}{i:Nat}(h:i<l.length)(f:α→β):(l.take<|i+1).map f=(l.take i).map f++[f l[i]]:=by
 rw[tS h,zg5]; rfl
def EF (id k:Int):Int:=if k=1 then id else IntKind.i64.wrap ((IntKind.i64.wrap<|id * k).tmod 211+1)
theorem jh:∀ (all ls:List (List Int)),all.length≤4000→(∀ x∈all,x.length≤9)→∀ r,cE all ls=some r→r.length≤4000∧∀ x∈r,x.length≤9
 | all,[],h1,h2,r,h=>by cases h; exact⟨h1,h2⟩
 | all,t::ls,h1,h2,r,h=>by
  unfold cE at h;split at h
  ·exact jh all ls h1 h2 r h
  ·rename_i hb;split at h
   ·cases h
   ·rename_i hl;refine jh _ ls oM (fun x hx=>?_) r h
    rcases oT hx with hx | hx
    ·exact h2 x hx
    ·refine kh ?_ x hx;cases hT:eo t with
     | nil=>simp
     | cons a r =>
      rw[hT] at hb;simp only[lV,zj4,zj6,not_or] at hb;omega
theorem xl (ls:List (List Int)):a8 (fZ ls)∧(fZ ls).length≤4000:=by
 unfold fZ;cases h:cE [] ls with
 | none=>exact⟨⟨by simp,by simp⟩,by simp⟩
 | some all =>
  obtain ⟨h1,h2⟩:=jh [] ls (by simp) (by simp) all h;have h3:(aa<|bV all).length≤4000:=by rw[aN,dE]; exact h1
  exact⟨ba<|pj h1 h2,h3⟩
set_option maxHeartbeats 1000000
open Go.ChangeShapes Go.WideShapes Go.ChangeAt Go.RowKit
set_option maxRecDepth 100000
def vT (W:World):PH:=fun b=>W.heap[b]?
def E0 (W:World):World:={ W with drawn:=0 }
theorem Cq (W:World):At (E0 W) (vT W) [] W:=⟨rfl,⟨rfl,zf6 _⟩,rfl,fun _ _ h=>h,by simp,by simp,List.Pairwise.nil⟩
theorem Cs {W W':World}{g:PH}{s:Own}(h:At (E0 W) g s W')(hl:Le (vT W) g):Below W.heap.size W W':=by
 have hb:∀ k,k<W.heap.size→W'.heap[k]?=W.heap[k]?:=fun k hk=>by
  have h1:W.heap[k]?=some W.heap[k]:=Array.getElem?_eq_getElem hk;rw[h1];exact h.known k _<|hl k _ h1
 refine⟨h.os,h.tape.1,h.output,?_,hb⟩;refine zg9 fun hc=>?_;have h1:=hb W'.heap.size oM;rw[Array.getElem?_eq_none<|lR _,Array.getElem?_eq_getElem oM] at h1;cases h1
theorem CB {W:World}{a:Addr}{len cap:Nat}{xs:List Value}(hl:len≤cap)(hx:xs.length=len)(hc:∀ i x,xs[i]?=some x→W.cell? (a.add i)=some x):Sl (vT W) 1 (.slice (some a) len cap) len xs:=by
 refine⟨some a,cap,I,⟨oM,hl⟩,fun hne=>?_⟩;obtain ⟨b,o,sp⟩:=a;have h0:0<xs.length:=List.length_pos_iff.2 hne;have hc0:=hc 0 xs[0] (gE h0);have hsp:sp=none:=by simpa [Addr.add] using World.cell?_spot hc0
 subst hsp;have hadd:∀ i,(⟨b,o,none⟩:Addr).add i=⟨b,o+i,none⟩:=fun i=>by unfold Addr.add; split <;> simp_all
 simp only[hadd] at hc;have hcell:∀ i x,xs[i]?=some x→∃ cs T fr,W.heap[b]?=some (.cells cs T fr)∧cs[o+i]?=some x:=fun i x hi=>by
  have h1:=hc i x hi;unfold World.cell? at h1;split at h1
  ·rename_i cs T fr hh;exact⟨cs,T,fr,hh,by simpa using h1⟩
  ·cases h1
 obtain ⟨cs,T,fr,hb,_⟩:=hcell 0 xs[0] (gE h0);refine⟨b,o,cs,T,fr,I,hb,fun j x hj=>?_⟩;obtain ⟨cs',T',fr',hb',h2⟩:=hcell j x hj;rw[hb] at hb';cases hb';exact h2
section
variable {H:Type}{enc:TypeId×Value→H}{W:World}{base:Nat}{spare:Nat→Bool}{hd:Bool}
theorem Tryz.cells3:Tryz.prog.cellsOf 3=1:=by kernel_rfl
theorem y5 {fuel:Nat}{v:Value}{x:DataW H×List MemPlace}(h:DataW.trod enc Tryz.prog W base spare hd fuel 22 [v]=some x):∃ (l:List Int) (r:Sv),v = .slice r.p r.n r.c∧dJ (vT W) v l:=by
 rcases open_ints aG uT3 cells3 h with ⟨hcs,_⟩ | ⟨a,len,cap,zs,hcs,_,hl,_,hz,_,hcell,_⟩
 ·simp at hcs;subst hcs;exact⟨[],⟨none,0,0⟩,I,zb9 _ _⟩
 ·simp at hcs;subst hcs;have hlz:len≤zs.length:=by rw[hz]; split <;> omega
  have hlen:(zs.take len).length=len:=by rw[ze4]; omega
  have he:(zs.take len).flatMap ae.enc=(zs.take len).map vi:=by
   rw[List.flatMap_def];induction zs.take len with
   | nil=>rfl
   | cons y t ih=>simp[ae] at ih ⊢; exact ih
  refine⟨zs.take len,⟨some a,len,cap⟩,I,?_⟩;show Sl (vT W) 1 _ (zs.take len).length ((zs.take len).flatMap ae.enc);rw[he,hlen];refine CB hl (by rw[ze6,hlen]) fun i y hi=>?_;rw[zh9] at hi;cases hc:(zs.take len)[i]? with
  | none=>rw[hc] at hi; cases hi
  | some z =>
   rw[hc] at hi;cases hi;have hil:i<(zs.take len).length:=(zf5.1 hc).1;have hi2:i<zs.length:=oM;rw[hcell i hi2];have:zs.getD i 0=z:=by
    rw[zi1] at hc;split at hc
    ·rw[zh1,hc]; rfl
    ·cases hc
   rw[this]
instance:Inhabited (List Int×Sv):=⟨([],⟨none,0,0⟩)⟩
theorem tW {r:Reach}{b0:Nat}{P:Program}{w:World}{t e:TypeId}{n:Nat}{v:Value}(ht:P.underlying t=some (.array n e))(h:Value.okWide P w r b0 t v):∃ cs,v = .agg cs∧cs.size=P.cellsOf t:=by
 simp only[Value.okWide,ht] at h;obtain ⟨cs,h1,h2,_⟩:=h;exact⟨cs,h1,h2⟩
end
end Go.Proofs.YtmmghffoakhheaaGreatDoor
namespace Go.Sy
open Go
section
variable {P:Program}{N:Nat}{E:World}{f:Fr}{g:PH}{s s1:Own}{dst:Option Tmp}{ty:TypeId}{pos:String}{af:Array Edge}{gd:Option (Nat×Bool)}{α:Type}{k:Nat}{e:Enc α k}
end
end Go.Sy
namespace Go.Proofs.YtmmghffoakhheaaGreatDoor
open _root_.Go.Proofs.Tryz _root_.Go.Proofs.YtmmghffoakhheaaGreatDoor.Tryz
open Go Go.Sy Go.Pl Go.Proofs
def CP (A:List Cl)(k:Int):Option (List Int):=(ao A k).map fun c=>c.sides.map Side.cell
def DY (A:List Cl)(m:List Int):Nat:=((A.filter fun c=>!m.contains c.id).map fun c=>c.sides.length).sum
structure Wide (A:List Cl)(ids left m:List Int):Prop where
 sound:∀ x∈m,∃ id∈ids,Rch (CP A) id x
 todo:∀ x∈left,CP A x≠none→∃ id∈ids,Rch (CP A) id x
 start:∀ x∈ids,CP A x≠none→x∈left∨x∈m
 sides:∀ x∈m,∀ l,CP A x=some l→∀ y∈l,CP A y≠none→y∈left∨y∈m
 few:left.length+DY A m≤ids.length+DY A []
set_option maxRecDepth 100000
set_option maxHeartbeats 1000000
theorem Tryz.sty109:STy Tryz.prog 109 4 1 1 (vb false):=⟨underlying109,⟨t4,by kernel_rfl,by kernel_rfl,by kernel_rfl,by kernel_rfl⟩,rfl,by decide⟩
def iU:Enc Bool 1:=⟨fun n=>[vb n],fun _=>rfl,fun _ u hu=>by simp at hu; subst hu; rfl,by decide⟩
def f8 (A:List Cl)(m:List Int):List Bool:=A.map fun c=>m.contains c.id
theorem AF (A:List Cl):f8 A []=List.replicate A.length false:=by
 unfold f8;induction A with
 | nil=>rfl
 | cons d t ih=>simp[List.replicate_succ] at ih ⊢; exact ih
theorem AG {A:List Cl}{m:List Int}{k:Nat}{c:Cl}(h:A[k]?=some c):(f8 A m)[k]?=some (m.contains c.id):=by simp[f8,h]
theorem AE {A:List Cl}{m:List Int}{k:Nat}{c:Cl}(hn:(A.map Cl.id).Nodup)(h:A[k]?=some c):(f8 A m).set k true=f8 A (m++[c.id]):=by
 obtain ⟨hk,hc⟩:=zf5.1 h;apply List.ext_getElem?;intro q;rw[List.getElem?_set];unfold f8;simp only[zh9,ze6];split
 ·rename_i e;subst e;simp[hk,hc]
 ·rename_i hne;cases hq:A[q]? with
  | none=>rfl
  | some d =>
   obtain ⟨hq1,hq2⟩:=zf5.1 hq;have hd:¬ d.id=c.id:=fun e=>by
    have h1:(A.map Cl.id)[q]?=some c.id:=by simp[hq,e]
    have h2:(A.map Cl.id)[k]?=some c.id:=by simp[h]
    obtain ⟨i1,e1⟩:=zf5.1 h1;obtain ⟨i2,e2⟩:=zf5.1 h2
    rcases Nat.lt_or_gt_of_ne hne with h3 | h3
    ·exact zc9.1 hn k q i2 i1 h3<|e2.trans e1.symm
    ·exact zc9.1 hn q k i1 i2 h3<|e1.trans e2.symm
   simp[hd]
def ym (L:List (Int×List Side)):List (Int×Int):=L.foldl (fun zl p=>p.2.foldl (fun zl r=>j3 zl r.cell<|p.1 * r.sign) zl) []
def CM (L:List (Int×List Side)):List (Int×List Int):=L.zipIdx.foldl (fun ml p=>p.1.2.foldl (fY p.2) ml) []
def lF (L:List (Int×List Side)):Int :=
 if (ym L).any (fun p=>decide (p.2≠0)) then 24
 else if (CM L).any (fun p=>decide ((p.2.length:Int)≠2)) then 25
 else if ((mn<|eu<|CM L).length:Int)≠L.length then 25 else 0
def j5 (tl:List Cl)(c:Cl):List (Int×List Side):=c.sides.map fun x=>(x.sign,aV tl x)
theorem gt (tl:List Cl)(c:Cl):cH tl c=lF (j5 tl c):=by
 have h1:ly tl c.sides=ym (j5 tl c):=by
  unfold ly ym j5;rw[List.foldl_map];rfl
 have h2:iX tl c.sides=CM (j5 tl c):=by
  unfold iX CM j5;rw[List.zipIdx_map,List.foldl_map];rfl
 have h3:(j5 tl c).length=c.sides.length:=by simp[j5]
 unfold cH lF;rw[h1,h2,h3]
def AY (φ:Int→Int)(r:Side):Side:=⟨φ r.cell,r.sign⟩
def sr (φ:Int→Int)(L:List (Int×List Side)):List (Int×List Side):=L.map fun p=>(p.1,p.2.map<|AY φ)
def yu (L:List (Int×List Side)):List Int:=L.flatMap fun p=>p.2.map Side.cell
def kX {α:Type}(φ:Int→Int)(zl:List (Int×α)):List (Int×α):=zl.map fun p=>(φ p.1,p.2)
section
variable {φ:Int→Int}{K:Int→Prop}(hφ:∀ a b,K a→K b→φ a=φ b→a=b)
include hφ
theorem Cw {zl:List (Int×Int)}{k:Int}(x:Int)(hz:∀ p∈zl,K p.1)(hk:K k):j3 (kX φ zl) (φ k) x=kX φ (j3 zl k x):=by
 induction zl with
 | nil=>rfl
 | cons p r ih =>
  obtain ⟨a,z⟩:=p;have ha:=hz (a,z) (by simp);simp only[kX,zg4,j3] at ih ⊢;by_cases h:k=a
  ·subst h; simp
  ·rw[zf9 h,zf9 fun e=>h<|hφ k a hk ha e];simp only[zg4];rw[ih fun p hp=>hz p (by simp[hp])]
theorem Cz {zl:List (Int×List Int)}{k:Int}(x:Int)(hz:∀ p∈zl,K p.1)(hk:K k):gH (kX φ zl) (φ k) x=kX φ (gH zl k x):=by
 induction zl with
 | nil=>rfl
 | cons p r ih =>
  obtain ⟨a,z⟩:=p;have ha:=hz (a,z) (by simp);simp only[kX,zg4,gH] at ih ⊢;by_cases h:k=a
  ·subst h; simp
  ·rw[zf9 h,zf9 fun e=>h<|hφ k a hk ha e];simp only[zg4];rw[ih fun p hp=>hz p (by simp[hp])]
omit hφ in
theorem Cy {zl:List (Int×Int)}{k x:Int}(hz:∀ p∈zl,K p.1)(hk:K k):∀ p∈j3 zl k x,K p.1:=by
 induction zl with
 | nil=>intro p hp; simp[j3] at hp; subst hp; exact hk
 | cons q r ih =>
  obtain ⟨a,z⟩:=q;have ha:=hz (a,z) (by simp);intro p hp;simp only[j3] at hp;split at hp
  ·rcases zf1.1 hp with rfl | hp
   ·exact ha
   ·exact hz p (by simp[hp])
  ·rcases zf1.1 hp with rfl | hp
   ·exact ha
   ·exact ih (fun p hp=>hz p<|by simp[hp]) p hp
omit hφ in
theorem CA {zl:List (Int×List Int)}{k x:Int}(hz:∀ p∈zl,K p.1)(hk:K k):∀ p∈gH zl k x,K p.1:=by
 induction zl with
 | nil=>intro p hp; simp[gH] at hp; subst hp; exact hk
 | cons q r ih =>
  obtain ⟨a,z⟩:=q;have ha:=hz (a,z) (by simp);intro p hp;simp only[gH] at hp;split at hp
  ·rcases zf1.1 hp with rfl | hp
   ·exact ha
   ·exact hz p (by simp[hp])
  ·rcases zf1.1 hp with rfl | hp
   ·exact ha
   ·exact ih (fun p hp=>hz p<|by simp[hp]) p hp
theorem sF (t:Int):∀ (l:List Side) (zl:List (Int×Int)),(∀ r∈l,K r.cell)→(∀ p∈zl,K p.1) →
  (l.map<|AY φ).foldl (fun zl r=>j3 zl r.cell<|t * r.sign) (kX φ zl)=kX φ (l.foldl (fun zl r=>j3 zl r.cell<|t * r.sign) zl)∧∀ p∈l.foldl (fun zl r=>j3 zl r.cell<|t * r.sign) zl,K p.1
 | [],zl,_,hz=>⟨rfl,hz⟩
 | r::l,zl,hl,hz=>by
  have hr:=hl r (by simp);have:=sF t l (j3 zl r.cell<|t * r.sign) (fun q hq=>hl q<|by simp[hq])<|Cy hz hr;simp only[zg4,zi7];rw[show (AY φ r).cell=φ r.cell from rfl,show (AY φ r).sign=r.sign from rfl,Cw hφ _ hz hr];exact this
theorem wA (t:Int):∀ (l:List Side) (zl:List (Int×List Int)),(∀ r∈l,K r.cell)→(∀ p∈zl,K p.1) →
  (l.map<|AY φ).foldl (fY t) (kX φ zl)=kX φ (l.foldl (fY t) zl)∧∀ p∈l.foldl (fY t) zl,K p.1
 | [],zl,_,hz=>⟨rfl,hz⟩
 | r::l,zl,hl,hz=>by
  have hr:=hl r (by simp);have:=wA t l (gH zl r.cell t) (fun q hq=>hl q<|by simp[hq])<|CA hz hr;simp only[zg4,zi7];rw[show fY t (kX φ zl) (AY φ r)=kX φ (gH zl r.cell t) from Cz hφ _ hz hr];exact this
theorem we:∀ (L:List (Int×List Side)) (zl:List (Int×Int)),(∀ k∈yu L,K k)→(∀ p∈zl,K p.1) →
  (sr φ L).foldl (fun zl p=>p.2.foldl (fun zl r=>j3 zl r.cell<|p.1 * r.sign) zl) (kX φ zl)=kX φ (L.foldl (fun zl p=>p.2.foldl (fun zl r=>j3 zl r.cell<|p.1 * r.sign) zl) zl)
 | [],_,_,_=>rfl
 | p::L,zl,hl,hz=>by
  obtain ⟨h1,h2⟩:=sF hφ p.1 p.2 zl (fun r hr=>hl _<|List.mem_flatMap.2 ⟨p,by simp,zf2.2 ⟨r,hr,rfl⟩⟩) hz;simp only[sr,zg4,zi7] at h1 ⊢;rw[h1];exact we L _ (fun k hk=>hl k (by simp only[yu,zh5,zf3]; exact .inr hk)) h2
theorem yV:∀ (L:List (Int×List Side)) (i:Nat) (zl:List (Int×List Int)),(∀ k∈yu L,K k)→(∀ p∈zl,K p.1) →
  ((sr φ L).zipIdx i).foldl (fun ml p=>p.1.2.foldl (fY p.2) ml) (kX φ zl)=kX φ ((L.zipIdx i).foldl (fun ml p=>p.1.2.foldl (fY p.2) ml) zl)
 | [],_,_,_,_=>rfl
 | p::L,i,zl,hl,hz=>by
  obtain ⟨h1,h2⟩:=wA hφ i p.2 zl (fun r hr=>hl _<|List.mem_flatMap.2 ⟨p,by simp,zf2.2 ⟨r,hr,rfl⟩⟩) hz;simp only[sr,zg4,List.zipIdx_cons,zi7] at h1 ⊢;rw[h1];exact yV L (i+1) _ (fun k hk=>hl k (by simp only[yu,zh5,zf3]; exact .inr hk)) h2
end
theorem zm {α:Type}(φ:Int→Int)(zl:List (Int×α))(q:α→Bool):(kX φ zl).any (fun p=>q p.2)=zl.any (fun p=>q p.2):=by
 simp only[kX,List.any_map];rfl
theorem BV (φ:Int→Int)(ml:List (Int×List Int)):eu (kX φ ml)=eu ml:=by
 simp only[eu,kX,List.foldl_map];rfl
theorem oS {φ:Int→Int}{L:List (Int×List Side)}(hφ:∀ a∈yu L,∀ b∈yu L,φ a=φ b→a=b):lF (sr φ L)=lF L:=by
 have h1:ym (sr φ L)=kX φ (ym L):=we (K:=fun k=>k∈yu L) (fun a b ha hb=>hφ a ha b hb) L [] (fun _ h=>h) (by simp);have h2:CM (sr φ L)=kX φ (CM L):=yV (K:=fun k=>k∈yu L) (fun a b ha hb=>hφ a ha b hb) L 0 [] (fun _ h=>h) (by simp);unfold lF;rw[h1,h2,zm φ _ fun z=>decide (z≠0),zm φ _ fun l:List Int=>decide ((l.length:Int)≠2),BV];have h3:(sr φ L).length=L.length:=by simp[sr]
 rw[h3]
def code (k q:Nat):Int:=if q<k then ((q * 16+k:Nat):Int) else ((k * 16+(q+1):Nat):Int)
def D3 (n:Nat):List (Int×List Side):=(List.range n).reverse.map fun k:Nat=>(j4 k,(List.range<|n - 1).reverse.map fun q:Nat=>⟨code k q,j4 q⟩)
theorem Ds:∀ n,n<10→2<n→lF (D3 n)=0:=by decide +kernel
theorem iG (b:Nat)(a:Int)(l:List Int):f7 b (a::l)=(if b % 2=1 then [a] else [])++f7 (b / 2) l:=by
 unfold f7;have hz:∀ (l:List Int) (i:Nat),((l.zipIdx<|i+1).filter fun p=>b / 2 ^ p.2 % 2 == 1).map (·.1)=((l.zipIdx i).filter fun p=>b / 2 / 2 ^ p.2 % 2 == 1).map (·.1):=by
  intro l;induction l with
  | nil=>intro i; rfl
  | cons x r ih =>
   intro i;have hp:b / 2 ^ (i+1)=b / 2 / 2 ^ i:=by rw[Nat.pow_succ,Nat.mul_comm,Nat.div_div_eq_div_mul]
   simp only[List.zipIdx_cons,zi6,hp];have:=ih<|i+1;split
   ·simp only[zg4,this]
   ·exact this
 simp only[List.zipIdx_cons,zi6,Nat.pow_zero,Nat.div_one];by_cases h:b % 2=1
 ·simp only[h,if_true,beq_self_eq_true,zg4];rw[hz l 0];rfl
 ·have h2:(b % 2 == 1)=false:=by simpa using h
  simp only[h,h2,if_false,Bool.false_eq_true];rw[hz l 0];rfl
theorem z8 (l:List Int):∀ b,(f7 b l).Sublist l:=by
 induction l with
 | nil=>intro b; exact .slnil
 | cons a r ih =>
  intro b;rw[iG];split
  ·exact (ih _).cons_cons a
  ·exact (ih _).cons a
theorem BI (l:List Int):∀ b,b≠0→b<2 ^ l.length→f7 b l≠[]:=by
 induction l with
 | nil=>intro b h0 h; simp at h; exact absurd h h0
 | cons a r ih =>
  intro b h0 h;rw[iG];split
  ·simp
  ·rename_i h1;rw[ze8,Nat.pow_succ] at h;simpa using ih (b / 2) oM oM
theorem uX {x l:List Int}(h:x.Sublist l):∃ b,b<2 ^ l.length∧f7 b l=x:=by
 induction h with
 | slnil=>exact⟨0,by simp,rfl⟩
 | cons a _ ih =>
  obtain ⟨b,hb,e⟩:=ih;refine⟨2 * b,by rw[ze8,Nat.pow_succ]; omega,?_⟩;rw[iG,zf9 oM,show 2 * b / 2=b by omega,e];rfl
 | cons_cons a _ ih =>
  obtain ⟨b,hb,e⟩:=ih;refine⟨2 * b+1,by rw[ze8,Nat.pow_succ]; omega,?_⟩;rw[iG,zg1 oM,show (2 * b+1) / 2=b by omega,e];rfl
theorem jL (t x:List Int):x∈dD t↔x.Sublist t∧x≠[]:=by
 unfold dD;constructor
 ·intro h;obtain ⟨i,hi,rfl⟩:=zf2.1 h;have:=List.mem_range.1 hi;exact⟨z8 _ _,BI _ _ oM oM⟩
 ·rintro ⟨h,hne⟩;obtain ⟨b,hb,rfl⟩:=uX h;have h0:b≠0:=fun e=>by
   subst e;apply hne;have:∀ l:List Int,f7 0 l=[]:=by
    intro l;induction l with
    | nil=>rfl
    | cons a r ih=>rw[iG]; simpa using ih
   exact this t
  exact zf2.2 ⟨b - 1,List.mem_range.2 oM,by rw[show b - 1+1=b by omega]⟩
structure hX (all:List (List Int)):Prop where
 strict:eG all
 form:∀ s∈all,s≠[]∧dI s∧s.length≤9
 faces:∀ s∈all,2≤s.length→∀ k,k<s.length→s.eraseIdx k∈all
theorem hX.nil:hX []:=⟨List.Pairwise.nil,by simp,by simp⟩
theorem hX.add {all:List (List Int)}{t:List Int}(h:hX all)(ht:dI t)(hl:t.length≤9):hX (iV all t):=by
 refine⟨ko all t,fun s hs=>?_,fun s hs h2 k hk=>?_⟩
 ·rcases (je all t s).1 hs with h1 | h1
  ·exact h.form s h1
  ·obtain ⟨h2,h3⟩:=(jL t s).1 h1;exact⟨h3,ht.sublist h2,zk8 h2.length_le hl⟩
 ·refine (je all t _).2 ?_
  rcases (je all t s).1 hs with h1 | h1
  ·exact .inl<|h.faces s h1 h2 k hk
  ·refine .inr<|(jL t _).2 ⟨(List.eraseIdx_sublist s k).trans ((jL t s).1 h1).1,fun e=>?_⟩;have:=ze2 List.length e;rw[List.length_eraseIdx] at this;simp[hk] at this;omega
theorem gU:∀ (ls acc:List (List Int)) {all:List (List Int)},cE acc ls=some all→hX acc→acc.length≤4000→hX all∧all.length≤4000
 | [],acc,all,h,hg,hl=>by cases h; exact⟨hg,hl⟩
 | s::r,acc,all,h,hg,hl=>by
  unfold cE at h;split at h
  ·exact gU r acc h hg hl
  ·rename_i hb;split at h
   ·cases h
   ·rename_i hlen;refine gU r _ h (hg.add (kz s) ?_) oM;cases hc:eo s with
    | nil=>simp
    | cons a q =>
     rw[hc] at hb;simp[lV] at hb;simp;omega
section
variable {all:List (List Int)}(hg:hX all)
include hg
theorem hX.get_lb {t:List Int}(ht:t∈all):all[lbL all t]?=some t:=by
 obtain ⟨h1,h2⟩:=nF t hg.strict.srt;have hs:eG (all.take (lbL all t)++all.drop (lbL all t)):=by rw[zj2]; exact hg.strict
 have hd:=(List.pairwise_append.1 hs).2.1;have hm:t∈all.drop (lbL all t):=by
  have:t∈all.take (lbL all t)++all.drop (lbL all t):=by rw[zj2]; exact ht
  rcases zf3.1 this with h | h
  ·have:=h1 t h;rw[c8] at this;exact absurd this dC
  ·exact h
 have e:all[lbL all t]?=(all.drop<|lbL all t)[0]?:=by simp
 rw[e];cases hc:all.drop (lbL all t) with
 | nil=>rw[hc] at hm; simp at hm
 | cons y r =>
  rw[hc] at hm hd h2
  rcases zf1.1 hm with rfl | hm
  ·rfl
  ·exact absurd ((zk4.1 hd).1 t hm) (h2 y<|by simp)
theorem hX.lb_get {k:Nat}(hk:k<all.length):lbL all all[k]=k:=by
 have h1:=hg.get_lb<|gM hk;obtain ⟨h2,h3⟩:=zf5.1 h1;have hself:¬ aC all[k] all[k]<0:=by rw[c8]; decide
 rcases Nat.lt_trichotomy (lbL all all[k]) k with h | h | h
 ·have:=zc9.1 hg.strict _ _ h2 hk h;rw[h3] at this;exact absurd this hself
 ·exact h
 ·have:=zc9.1 hg.strict _ _ hk h2 h;rw[h3] at this;exact absurd this hself
end
def ixC (all:List (List Int))(t:List Int):Int:=((lbL all t:Nat):Int)+1
theorem hX.inj {all:List (List Int)}(hg:hX all){t u:List Int}(ht:t∈all)(hu:u∈all)(h:ixC all t=ixC all u):t=u:=by
 have h1:=hg.get_lb ht;have h2:=hg.get_lb hu;have:lbL all t=lbL all u:=by unfold ixC at h; omega
 rw[this,h2] at h1;injection h1 with h1
 exact h1.symm
theorem hX.lt {all:List (List Int)}(hg:hX all){t u:List Int}(ht:t∈all)(hu:u∈all)(h:aC t u<0):ixC all t<ixC all u:=by
 obtain ⟨i1,e1⟩:=zf5.1<|hg.get_lb ht;obtain ⟨i2,e2⟩:=zf5.1<|hg.get_lb hu;unfold ixC
 rcases Nat.lt_trichotomy (lbL all t) (lbL all u) with h1 | h1 | h1
 ·omega
 ·have:t=u:=hg.inj ht hu (by unfold ixC; omega);subst this;rw[c8] at h;exact absurd h dC
 ·have:=zc9.1 hg.strict _ _ i2 i1 h1;rw[e1,e2] at this;exact absurd h<|ik this
def fx (all:List (List Int))(s:List Int):List Side:=if s.length≤1 then [] else (List.range s.length).reverse.map fun k:Nat=>⟨ixC all<|s.eraseIdx k,j4 k⟩
def iZ (all:List (List Int))(s:List Int):Cl:=⟨ixC all s,(s.length:Int) - 1,fx all s⟩
theorem wN {s:List Int}(hs:dI s):∀ {i j:Nat},i<j→j<s.length→aC (s.eraseIdx j) (s.eraseIdx i)<0:=by
 induction s with
 | nil=>intro i j _ h; simp at h
 | cons a r ih =>
  intro i j hij hj;obtain ⟨h1,h2⟩:=zk4.1 hs;cases j with
  | zero=>omega
  | succ j =>
   simp only[ze8] at hj;cases i with
   | zero =>
    cases r with
    | nil=>simp at hj
    | cons b q =>
     have hab:=h1 b (by simp);have hl:((a::b::q).eraseIdx<|j+1).length=((a::b::q).eraseIdx 0).length:=by
      simp[List.length_eraseIdx] at hj ⊢;omega
     rw[ge hl];simp only[List.eraseIdx_cons_succ,List.eraseIdx_cons_zero,jd];have:jv a b = -1:=by unfold jv; rw[zg1 hab]
     simp[this]
   | succ i =>
    have h3:=ih h2 (i:=i) (j:=j) oM oM;have hl:(r.eraseIdx j).length=(r.eraseIdx i).length:=by
     rw[List.length_eraseIdx,List.length_eraseIdx,zg1 oM,zg1 oM]
    have hl2:((a::r).eraseIdx<|j+1).length=((a::r).eraseIdx<|i+1).length:=by simp[hl]
    rw[ge hl] at h3;rw[ge hl2];simp only[List.eraseIdx_cons_succ,jd];have:jv a a=0:=by unfold jv; rw[zf9 oM,zf9 oM]
    simpa [this] using h3
theorem rq {A:List Cl}(h:(A.map Cl.id).Nodup){x:Cl}(hx:x∈A):ao A x.id=some x:=by
 induction A with
 | nil=>simp at hx
 | cons c t ih =>
  simp only[zg4,zk3] at h;unfold ao
  rcases zf1.1 hx with rfl | hx
  ·simp
  ·have hne:¬ c.id=x.id:=fun e=>h.1 (by rw[e]; exact zf2.2 ⟨x,hx,I⟩);rw[zi5];simp only[hne,decide_false];exact ih h.2 hx
theorem qi (c:Cl):dn (dn c)=dn c:=by
 unfold dn;rw[← bG (ck c.sides) (aA.refl _)]
theorem gz (l:List Cl):aa (aa l)=aa l:=by
 have h1:sortBy Cl.id (aa l)=aa l:=(bG (gi l)<|aA.refl _).symm;show (sortBy Cl.id<|aa l).map dn=aa l;rw[h1];unfold aa;rw[zi4];exact zc8 fun c _=>qi c
theorem Bt {α:Type}{key:α→Int}{l:List α}(h:l.Pairwise fun a b=>key b<key a):sortBy key l=l.reverse:=by
 refine (bG ?_ ⟨by simp,fun c=>?_⟩).symm
 ·unfold Srt;rw[List.pairwise_reverse];exact h.imp fun h=>by omega
 ·rw[List.filter_reverse];have:∀ m:List α,m.Pairwise (fun a b=>key b<key a)→(∀ a∈m,(key a == c)=true)→m.reverse=m:=by
   intro m hm hc
   match m,hm,hc with
   | [],_,_=>rfl
   | [_],_,_=>rfl
   | a::b::r,hm,hc =>
    have h1:=(zk4.1 hm).1 b (by simp);have h2:=hc a (by simp);have h3:=hc b (by simp);simp at h2 h3;omega
  exact this _ (h.sublist List.filter_sublist) fun a ha=>(zh4.1 ha).2
section
variable {all:List (List Int)}(hg:hX all)
include hg
theorem hX.face {s:List Int}(hs:s∈all){k:Nat}(hk:k<s.length)(h2:2≤s.length):s.eraseIdx k∈all∧(s.eraseIdx k).length=s.length - 1 :=
 ⟨hg.faces s hs h2 k hk,by rw[List.length_eraseIdx,zg1 hk]⟩
theorem hX.sides {s:List Int}(hs:s∈all):sortBy Side.cell (bu all s s.length)=fx all s:=by
 have hne:=(hg.form s hs).1;have hst:=(hg.form s hs).2.1;by_cases h1:s.length≤1
 ·have h0:s.length=1:=by have:=List.length_pos_iff.2 hne; omega
  unfold fx;rw[zg1 h1,h0];have:iJ all s 0=[]:=by
   unfold iJ;have h3:(s.eraseIdx 0).length=0:=by rw[List.length_eraseIdx,zg1 oM]; omega
   rw[zf9 oM]
  simp[bu,List.range_succ,this,sortBy]
 ·have h2:2≤s.length:=oM;have e:bu all s s.length=(List.range s.length).map fun k:Nat=>(⟨ixC all<|s.eraseIdx k,j4 k⟩:Side):=by
   unfold bu;rw[List.flatMap_def];have:(List.range s.length).map (iJ all s)=(List.range s.length).map fun k:Nat=>[(⟨ixC all<|s.eraseIdx k,j4 k⟩:Side)]:=zc8 fun k hk=>by
    have hk:=List.mem_range.1 hk;unfold iJ;rw[(hg.face hs hk h2).2,zg1 oM];rfl
   rw[this];generalize List.range s.length=R;induction R with
   | nil=>rfl
   | cons x r ih=>simp only[zg4,List.flatten_cons,ih]; rfl
  unfold fx;rw[zf9 h1,e,List.map_reverse];refine Bt ?_;rw[zk5];refine List.Pairwise.imp_of_mem ?_<|List.pairwise_lt_range (n:=s.length);intro i j hi hj hij;have hi:=List.mem_range.1 hi;have hj:=List.mem_range.1 hj;exact hg.lt (hg.face hs hj h2).1 (hg.face hs hi h2).1<|wN hst hij hj
theorem hX.cells:aa (bV all)=all.map (iZ all):=by
 rw[qF];apply List.ext_getElem?;intro k;simp only[zh9];by_cases hk:k<all.length
 ·rw[lj hk,gE hk];simp only[Option.map_some,zg7];unfold dn m5 iZ;simp only[hg.sides<|gM hk,ixC,hg.lb_get hk]
 ·rw[List.getElem?_eq_none (by rw[dE]; omega),List.getElem?_eq_none oM];rfl
theorem hX.ids:((all.map<|iZ all).map Cl.id).Pairwise (· < ·):=by
 rw[zi4,zk5];refine List.Pairwise.imp_of_mem ?_ hg.strict;intro a b ha hb h;exact hg.lt ha hb h
theorem hX.find {s:List Int}(hs:s∈all):ao (all.map<|iZ all) (ixC all s)=some (iZ all s) :=
 rq (x:=iZ all s) (hg.ids.imp fun h=>by omega) (zf2.2 ⟨s,hs,rfl⟩)
end
theorem zP (k:Nat):j4 k=1∨j4 k = -1:=by unfold j4; omega
theorem qA {all:List (List Int)}{s:List Int}(h:2≤s.length){i:Nat}(hi:i<s.length):(fx all s)[i]?=some ⟨ixC all<|s.eraseIdx<|s.length - 1 - i,j4 ((s.length - 1 - i:Nat):Int)⟩:=by
 unfold fx;rw[zf9 oM,zh9,List.getElem?_reverse (by simpa using hi)];simp only[List.length_range];rw[List.getElem?_range oM];rfl
theorem rX {all:List (List Int)}{s:List Int}:(fx all s).length=if s.length≤1 then 0 else s.length:=by
 unfold fx;split <;> simp
section
variable {all:List (List Int)}(hg:hX all)
include hg
theorem hX.formOk {s:List Int}(hs:s∈all):cw (all.map<|iZ all) (iZ all s)=0:=by
 obtain ⟨hne,hst,h9⟩:=hg.form s hs;have hp:=List.length_pos_iff.2 hne;have hlen:(iZ all s).sides.length=if s.length≤1 then 0 else s.length:=rX
 have hdim:(iZ all s).dim=(s.length:Int) - 1:=rfl;have h1:eL (iZ all s)=false:=by unfold eL; rw[hdim]; simp; omega
 have h2:aY (iZ all s)=false:=by
  unfold aY;rw[hdim,hlen];split
  ·simp; omega
  ·simp; omega
 have h3:(List.range (iZ all s).sides.length).any (ff (all.map<|iZ all)<|iZ all s)=false:=by
  rw[zk6];intro i hi;have hi:=List.mem_range.1 hi;rw[hlen] at hi;split at hi
  ·omega
  ·rename_i hl;have h2:2≤s.length:=oM;have hgi:=qA (all:=all) h2 hi;have hf:=hg.face hs (k:=s.length - 1 - i) oM h2;unfold ff;rw[show (iZ all s).sides[i]?=_ from hgi];show ¬ bI _ _ i ⟨ixC all<|s.eraseIdx<|s.length - 1 - i,_⟩=true;unfold bI;dsimp only;rw[hg.find hf.1];have hd:(iZ all<|s.eraseIdx<|s.length - 1 - i).dim=(iZ all s).dim - 1:=by
    show ((s.eraseIdx<|s.length - 1 - i).length:Int) - 1=(s.length:Int) - 1 - 1;rw[hf.2];omega
   simp only[Option.isSome_some,Bool.not_true,Bool.false_or,Option.getD_some,hd,ne_eq,not_true_eq_false,decide_false];by_cases hi0:i>0
   ·have hgp:=qA (all:=all) h2 (i:=i - 1) oM;rw[show (iZ all s).sides[i - 1]?=_ from hgp];have hf2:=hg.face hs (k:=s.length - 1 - (i - 1)) oM h2;have:=hg.lt hf2.1 hf.1<|wN hst oM oM;simp;omega
   ·simp[hi0]
 have h4:(iZ all s).sides.any bF=false:=by
  rw[zk6];intro x hx;show ¬ bF x=true;have hx:x∈fx all s:=hx;unfold fx at hx;split at hx
  ·simp at hx
  ·obtain ⟨k,_,rfl⟩:=zf2.1 hx
   rcases zP k with h | h <;> simp[bF,h]
 have h5:(decide ((iZ all s).dim=1)&&decide (kW (iZ all s).sides≠0))=false:=by
  by_cases hd:(iZ all s).dim=1
  ·rw[hdim] at hd;have hl2:s.length=2:=oM;have:kW (iZ all s).sides=0:=by
    show kW (fx all s)=0;unfold fx;rw[zf9 oM,hl2];simp[List.range_succ,kW,j4]
   rw[this];simp
  ·simp[hd]
 unfold cw;rw[h1,h2,h3,h4,h5];rfl
end
theorem xZ (s:List Int):∀ {k q:Nat},k≤q→(s.eraseIdx k).eraseIdx q=(s.eraseIdx<|q+1).eraseIdx k:=by
 induction s with
 | nil=>intro k q _; rfl
 | cons a r ih =>
  intro k q h;cases k with
  | zero=>simp
  | succ k =>
   cases q with
   | zero=>omega
   | succ q =>
    simp only[List.eraseIdx_cons_succ];rw[ih oM]
theorem qk {s:List Int}(hs:s.Nodup){a b i:Nat}(hab:a<b)(hb:b<s.length)(hi:i<s.length):s[i]∈(s.eraseIdx b).eraseIdx a↔i≠a∧i≠b:=by
 have hinj:∀ {j k:Nat} (hj:j<s.length) (hk:k<s.length),s[j]=s[k]→j=k:=fun {j k} hj hk e=>by
  rcases Nat.lt_trichotomy j k with h | h | h
  ·exact absurd e<|zc9.1 hs j k hj hk h
  ·exact h
  ·exact absurd e.symm<|zc9.1 hs k j hk hj h
 rw[List.mem_eraseIdx_iff_getElem];constructor
 ·rintro ⟨j,hj1,hj2,e⟩;have hj1':=hj1;rw[List.length_eraseIdx,zg1 hb] at hj1';rw[List.getElem_eraseIdx] at e;split at e
  ·have:=hinj _ _ e;omega
  ·have:=hinj _ _ e;omega
 ·rintro ⟨h1,h2⟩
  rcases Nat.lt_or_ge i b with h | h
  ·refine⟨i,by rw[List.length_eraseIdx,zg1 hb]; omega,h1,?_⟩;rw[List.getElem_eraseIdx,dif_pos h]
  ·refine⟨i - 1,by rw[List.length_eraseIdx,zg1 hb]; omega,oM,?_⟩;rw[List.getElem_eraseIdx,dif_neg oM];congr 1;omega
theorem x3 {s:List Int}(hs:s.Nodup){a b c d:Nat}(hab:a<b)(hb:b<s.length)(hcd:c<d)(hd:d<s.length)(h:(s.eraseIdx b).eraseIdx a=(s.eraseIdx d).eraseIdx c):a=c∧b=d:=by
 have key:∀ i,i<s.length→((i≠a∧i≠b)↔(i≠c∧i≠d)):=fun i hi=>by
  rw[← qk hs hab hb hi,← qk hs hcd hd hi,h]
 have ha:=key a oM;have hb':=key b hb;have hc:=key c oM;have hd':=key d hd;omega
def EE (all:List (List Int))(s:List Int)(c:Int):Int:=ixC all ((s.eraseIdx (c % 16).toNat).eraseIdx (c / 16).toNat)
theorem zd {n k q:Nat}(hk:k<n)(hq:q<n - 1):∃ a b:Nat,a<b∧b<n∧code k q=((a * 16+b:Nat):Int)∧((q<k∧a=q∧b=k)∨(k≤q∧a=k∧b=q+1)):=by
 unfold code;by_cases h:q<k
 ·rw[zg1 h]; exact⟨q,k,h,hk,I,.inl ⟨h,I,I⟩⟩
 ·rw[zf9 h]; exact⟨k,q+1,oM,oM,I,.inr ⟨oM,I,I⟩⟩
theorem jH {a b:Nat}(h:b<16):((((a * 16+b:Nat):Int) % 16).toNat=b)∧((((a * 16+b:Nat):Int) / 16).toNat=a):=oM
section
variable {all:List (List Int)}(hg:hX all)
include hg
theorem hX.aroundOk {s:List Int}(hs:s∈all)(h3:2<s.length):cH (all.map<|iZ all) (iZ all s)=0:=by
 obtain ⟨hne,hst,h9⟩:=hg.form s hs;have hnd:s.Nodup:=hst.imp fun h=>by omega
 have hE:∀ a b,a<b→b<s.length→(s.eraseIdx b).eraseIdx a∈all:=fun a b hab hb=>by
  have h1:=hg.face hs (k:=b) hb oM;exact (hg.face h1.1 (k:=a) (by rw[h1.2]; omega) (by rw[h1.2]; omega)).1
 have hlook:j5 (all.map<|iZ all) (iZ all s)=sr (EE all s) (D3 s.length):=by
  unfold j5 sr D3;show (fx all s).map _=_;unfold fx;rw[zf9 oM,zi4,zi4];refine zc8 fun k hk=>?_;have hk:k<s.length:=by simpa using hk
  have hf:=hg.face hs hk oM;simp only[Function.comp_def];congr 1;unfold aV;rw[hg.find hf.1];show fx all (s.eraseIdx k)=_;unfold fx;rw[hf.2,zf9 oM,zi4];refine zc8 fun q hq=>?_;have hq:q<s.length - 1:=by simpa using hq
  obtain ⟨a,b,hab,hb,hc,hcase⟩:=zd hk hq;simp only[Function.comp_def,AY];congr 1;unfold EE;rw[hc,(jH (a:=a) (b:=b) oM).1,(jH (a:=a) (b:=b) oM).2]
  rcases hcase with ⟨_,rfl,rfl⟩ | ⟨h,rfl,rfl⟩
  ·rfl
  ·rw[xZ s h]
 rw[gt,hlook,oS,Ds _ oM h3];have hkey:∀ x∈yu (D3 s.length),∃ a b:Nat,a<b∧b<s.length∧x=((a * 16+b:Nat):Int):=by
  intro x hx;obtain ⟨p,hp,hx⟩:=List.mem_flatMap.1 hx;obtain ⟨k,hk,rfl⟩:=zf2.1 hp;obtain ⟨r,hr,rfl⟩:=zf2.1 hx;obtain ⟨q,hq,rfl⟩:=zf2.1 hr;obtain ⟨a,b,hab,hb,hc,_⟩:=zd (n:=s.length) (k:=k) (q:=q) (by simpa using hk) (by simpa using hq);exact⟨a,b,hab,hb,hc⟩
 intro x hx y hy h;obtain ⟨a,b,hab,hb,rfl⟩:=hkey x hx;obtain ⟨c,d,hcd,hd,rfl⟩:=hkey y hy;unfold EE at h;rw[(jH (a:=a) (b:=b) oM).1,(jH (a:=a) (b:=b) oM).2,(jH (a:=c) (b:=d) oM).1,(jH (a:=c) (b:=d) oM).2] at h;obtain ⟨rfl,rfl⟩:=x3 hnd hab hb hcd hd<|hg.inj (hE a b hab hb) (hE c d hcd hd) h;rfl
end
theorem tn {tl:List Cl}:∀ {l:List Cl} {n:Int},(∀ x∈l,n<x.id)→l.Pairwise (fun a b=>a.id<b.id)→(∀ x∈l,cw tl x=0)→fJ tl l n=none
 | [],_,_,_,_=>rfl
 | x::r,n,h1,h2,h3=>by
  have hx:=h1 x (by simp);obtain ⟨h4,h5⟩:=zk4.1 h2;unfold fJ;rw[zf9 oM,zf9 (by rw[h3 x (by simp)]; simp)];exact tn h4 h5 fun y hy=>h3 y (by simp[hy])
theorem tj {tl:List Cl}:∀ {l:List Cl},(∀ x∈l,x.dim>1→cH tl x=0)→nk tl l=none
 | [],_=>rfl
 | x::r,h=>by
  unfold nk;rw[zf9 fun ⟨h1,h2⟩=>h2<|h x (by simp) h1];exact tj fun y hy=>h y (by simp[hy])
theorem wO {l:List Cl}(h0:l.length≤4000)(h1:∀ x∈aa l,0<x.id)(h2:(aa l).Pairwise fun a b=>a.id<b.id)(h3:∀ x∈aa l,cw (aa l) x=0)(h4:∀ x∈aa l,x.dim>1→cH (aa l) x=0):aq l=(0,0):=by
 unfold aq;rw[zf9 oM,bB h2,tn h1 h2 h3,tj h4];rfl
theorem uK (ls:List (List Int)):aq (fZ ls)=(0,0):=by
 unfold fZ;cases h:cE [] ls with
 | none=>rfl
 | some all =>
  obtain ⟨hg,hl⟩:=gU ls [] h hX.nil (by simp);dsimp only;have hc:aa (aa<|bV all)=all.map (iZ all):=by rw[gz,hg.cells]
  have hi:=hg.ids;rw[zk5] at hi;refine wO (by rw[hg.cells]; simpa using hl) ?_ ?_ ?_ ?_ <;> rw[hc]
  ·intro x hx;obtain ⟨s,_,rfl⟩:=zf2.1 hx;show 0<ixC all s;unfold ixC;omega
  ·exact hi
  ·intro x hx;obtain ⟨s,hs,rfl⟩:=zf2.1 hx;exact hg.formOk hs
  ·intro x hx hd;obtain ⟨s,hs,rfl⟩:=zf2.1 hx;refine hg.aroundOk hs ?_;have:(s.length:Int) - 1>1:=hd;omega
open Go.ChangeShapes Go.WideShapes Go.ChangeAt Go.RowKit
set_option maxRecDepth 100000
section
variable {H:Type}{enc:TypeId×Value→H}{W:World}{base:Nat}{spare:Nat→Bool}{hd:Bool}
end
inductive Cn (E:Int→Int→Prop):Int→Int→Prop
 | refl (a:Int):Cn E a a
 | step {a b c:Int} (h:E a b∨E b a) (r:Cn E b c):Cn E a c
theorem Cn.trans {E:Int→Int→Prop}{a b c:Int}(h:Cn E a b)(k:Cn E b c):Cn E a c:=by
 induction h with
 | refl _=>exact k
 | step h _ ih=>exact .step h<|ih k
theorem Cn.one {E:Int→Int→Prop}{a b:Int}(h:E a b):Cn E a b:=.step (.inl h) (.refl b)
theorem Cn.symm {E:Int→Int→Prop}{a b:Int}(h:Cn E a b):Cn E b a:=by
 induction h with
 | refl _=>exact .refl _
 | step h _ ih=>exact ih.trans<|.step h.symm<|.refl _
theorem Cn.mono {E E':Int→Int→Prop}(h:∀ a b,E a b→Cn E' a b){a b:Int}(hc:Cn E a b):Cn E' a b:=by
 induction hc with
 | refl _=>exact .refl _
 | step e _ ih =>
  rcases e with e | e
  ·exact (h _ _ e).trans ih
  ·exact (h _ _ e).symm.trans ih
theorem Cn.iso {E:Int→Int→Prop}{a b:Int}(h:∀ b,¬ E a b∧¬ E b a)(hc:Cn E a b):a=b:=by
 cases hc with
 | refl _=>rfl
 | step e _ =>
  rcases e with e | e
  ·exact absurd e (h _).1
  ·exact absurd e (h _).2
theorem Cn.add {E E':Int→Int→Prop}{x y:Int}(h:∀ a b,E' a b↔E a b∨(a=x∧b=y))(a b:Int):Cn E' a b↔Cn E a b∨(Cn E a x∧Cn E y b)∨(Cn E a y∧Cn E x b):=by
 have hxy:Cn E' x y:=.one<|(h x y).2<|.inr ⟨rfl,rfl⟩;have hm:∀ {a b:Int},Cn E a b→Cn E' a b:=fun hc=>hc.mono fun a b e=>.one<|(h a b).2<|.inl e;constructor
 ·intro hc;induction hc with
  | refl _=>exact .inl<|.refl _
  | step e _ ih =>
   have key:∀ {p q r:Int},Cn E p q→(Cn E q r∨(Cn E q x∧Cn E y r)∨(Cn E q y∧Cn E x r))→Cn E p r∨(Cn E p x∧Cn E y r)∨(Cn E p y∧Cn E x r):=by
    rintro p q r h1 (h2 | ⟨h2,h3⟩ | ⟨h2,h3⟩)
    ·exact .inl<|h1.trans h2
    ·exact .inr<|.inl ⟨h1.trans h2,h3⟩
    ·exact .inr<|.inr ⟨h1.trans h2,h3⟩
   rcases e with e | e
   ·rcases (h _ _).1 e with e | ⟨rfl,rfl⟩
    ·exact key (.one e) ih
    ·rcases ih with h2 | ⟨_,h3⟩ | ⟨_,h3⟩
     ·exact .inr<|.inl ⟨.refl _,h2⟩
     ·exact .inr<|.inl ⟨.refl _,h3⟩
     ·exact .inl h3
   ·rcases (h _ _).1 e with e | ⟨rfl,rfl⟩
    ·exact key (Cn.one e).symm ih
    ·rcases ih with h2 | ⟨_,h3⟩ | ⟨_,h3⟩
     ·exact .inr<|.inr ⟨.refl _,h2⟩
     ·exact .inl h3
     ·exact .inr<|.inr ⟨.refl _,h3⟩
 ·rintro (h1 | ⟨h1,h2⟩ | ⟨h1,h2⟩)
  ·exact hm h1
  ·exact (hm h1).trans<|hxy.trans<|hm h2
  ·exact (hm h1).trans<|hxy.symm.trans<|hm h2
def gv (ml:List (Int×List Int))(a b:Int):Prop:=∃ p∈ml,p.2.head?=some a∧b∈p.2
def RZ (e:En)(z:Int×Int):Prop:=e.id=z.1∧e.sum=z.2
def RM (e:En)(p:Int×List Int):Prop:=e.id=p.1∧e.many=p.2.length∧p.2.head?=some (e.fst:Int)
theorem rD {x:Int}(h : -9223372036854775808≤x∧x<9223372036854775808):wr x=x:=zk9 _ oM
theorem CF {i:Nat}{c p:Int}:∀ {es:List En} {zl:List (Int×Int)},az RZ es zl→(∀ e∈es,wr (e.sum+p)=e.sum+p)→wr (0+p)=p→az RZ (kK i c p es) (j3 zl c p)
 | [],[],_,_,hp=>⟨⟨rfl,hp⟩,trivial⟩
 | e::es,(a,z)::zl,h,hb,hp=>by
  obtain ⟨⟨h1,h2⟩,h3⟩:=h;have h1:e.id=a:=h1;have h2:e.sum=z:=h2;simp only[kK,j3];by_cases hc:e.id=c
  ·rw[zg1 hc,zg1 (by rw[← h1,hc])];exact⟨⟨h1,by show wr (e.sum+p)=z+p; rw[hb e (by simp),h2]⟩,h3⟩
  ·rw[zf9 hc,zf9 (by rw[← h1]; exact fun e=>hc e.symm)];exact⟨⟨h1,h2⟩,CF h3 (fun x hx=>hb x<|by simp[hx]) hp⟩
 | [],_::_,h,_,_=>h.elim
 | _::_,[],h,_,_=>h.elim
theorem CG {i:Nat}{c p:Int}:∀ {es:List En} {ml:List (Int×List Int)},az RM es ml→(∀ e∈es,wr (e.many+1)=e.many+1)→az RM (kK i c p es) (gH ml c i) ∧
  ∀ a b,gv (gH ml c i) a b↔gv ml a b∨(a=jE i c es∧b=i)
 | [],[],_,_=>by
  refine⟨⟨⟨rfl,by rfl,rfl⟩,trivial⟩,fun a b=>?_⟩;constructor
  ·rintro ⟨q,hq,h1,h2⟩;simp[gH] at hq;subst hq;simp at h1 h2;exact .inr ⟨h1.symm,h2⟩
  ·rintro (⟨q,hq,_⟩ | ⟨rfl,rfl⟩)
   ·simp at hq
   ·exact⟨(c,[(i:Int)]),by simp[gH],I,by simp⟩
 | e::es,(k,l)::ml,h,hb=>by
  obtain ⟨⟨h1,h2,h4⟩,h3⟩:=h;have h1:e.id=k:=h1;have h2:e.many=l.length:=h2;have h4:l.head?=some (e.fst:Int):=h4;simp only[kK,gH,jE];by_cases hc:e.id=c
  ·rw[zg1 hc,zg1 (by rw[← h1,hc]),zg1 hc];have hh:(l++[(i:Int)]).head?=some (e.fst:Int):=by
    cases l with
    | nil=>simp at h4
    | cons x r=>simpa using h4
   refine⟨⟨⟨h1,by show wr (e.many+1)=_; rw[hb e (by simp),h2]; simp,hh⟩,h3⟩,fun a b=>?_⟩;constructor
   ·rintro ⟨q,hq,h5,h6⟩
    rcases zf1.1 hq with rfl | hq
    ·dsimp only at h5 h6;rw[hh] at h5
     rcases zf3.1 h6 with h6 | h6
     ·exact .inl ⟨(k,l),by simp,by rw[h4,h5],h6⟩
     ·simp at h6;injection h5 with h5
      exact .inr ⟨h5.symm,h6⟩
    ·exact .inl ⟨q,by simp[hq],h5,h6⟩
   ·rintro (⟨q,hq,h5,h6⟩ | ⟨rfl,rfl⟩)
    ·rcases zf1.1 hq with rfl | hq
     ·exact⟨(k,l++[(i:Int)]),by simp,by rw[hh,← h4,h5],by simp[h6]⟩
     ·exact⟨q,by simp[hq],h5,h6⟩
    ·exact⟨(k,l++[(i:Int)]),by simp,hh,by simp⟩
  ·rw[zf9 hc,zf9 (by rw[← h1]; exact fun e=>hc e.symm),zf9 hc];obtain ⟨i1,i2⟩:=CG (i:=i) (c:=c) (p:=p) h3 fun x hx=>hb x (by simp[hx]);refine⟨⟨⟨h1,h2,h4⟩,i1⟩,fun a b=>?_⟩;have e1:∀ L,gv ((k,l)::L) a b↔(l.head?=some a∧b∈l)∨gv L a b:=fun L=>by
    unfold gv;simp
   rw[e1,e1,i2,or_assoc]
 | [],_::_,h,_=>h.elim
 | _::_,[],h,_=>h.elim
structure Sd (n t k:Nat)(es:List En)(part:List Int)(zl:List (Int×Int))(ml:List (Int×List Int)):Prop where
 z:az RZ es zl
 m:az RM es ml
 bz:∀ e∈es,-(t:Int)≤e.sum∧e.sum≤t∧0≤e.many∧e.many≤t
 bf:∀ e∈es,e.fst<k
 bm:∀ p∈ml,∀ x∈p.2,0≤x∧x<k
 len:part.length=n
 bp:∀ a,a<k→0≤part.getD a 0∧part.getD a 0<k
 cn:∀ a b:Nat,a<k→b<k→(part.getD a 0=part.getD b 0↔Cn (gv ml) a b)
theorem k9 {ml:List (Int×List Int)}{k:Nat}(h:∀ p∈ml,∀ x∈p.2,0≤x∧x<(k:Int)){a b:Int}(hl:gv ml a b):(0≤a∧a<k)∧(0≤b∧b<k):=by
 obtain ⟨p,hp,h1,h2⟩:=hl;exact⟨h p hp a<|List.mem_of_head? h1,h p hp b h2⟩
theorem Sd.open {n t k:Nat}{es:List En}{part:List Int}{zl:List (Int×Int)}{ml:List (Int×List Int)}(h:Sd n t k es part zl ml)(hk:k<n):Sd n t (k+1) es (part.set k k) zl ml:=by
 have hl:=h.len;have g1:(part.set k (k:Int)).getD k 0=k:=by rw[zh1,List.getElem?_set]; simp[hl,hk]
 have g2:∀ a,a≠k→(part.set k (k:Int)).getD a 0=part.getD a 0:=fun a ha=>by
  rw[zh1,zh1,List.getElem?_set,zf9 fun e=>ha e.symm]
 have iso:∀ b,¬ gv ml k b∧¬ gv ml b k:=fun b=>⟨fun e=>by have:=k9 h.bm e; omega,fun e=>by have:=k9 h.bm e; omega⟩;refine⟨h.z,h.m,h.bz,fun e he=>by have:=h.bf e he; omega,fun p hp x hx=>by have:=h.bm p hp x hx; omega,by simp[hl],fun a ha=>?_,fun a b ha hb=>?_⟩
 ·by_cases e:a=k
  ·subst e; rw[g1]; omega
  ·rw[g2 a e]; have:=h.bp a oM; omega
 ·by_cases e:a=k <;> by_cases e2:b=k
  ·subst e; subst e2; exact⟨fun _=>.refl _,fun _=>I⟩
  ·subst e;rw[g1,g2 b e2];have:=h.bp b oM;exact⟨fun h=>by omega,fun hc=>by have:=hc.iso iso; omega⟩
  ·subst e2;rw[g1,g2 a e];have:=h.bp a oM;exact⟨fun h=>by omega,fun hc=>by have:=hc.symm.iso iso; omega⟩
  ·rw[g2 a e,g2 b e2];exact h.cn a b oM oM
theorem kA {m:Nat}{old now:Int}{p:List Int}{a:Nat}(h:a<p.length)(hm:a<m):(ef m old now p).getD a 0=if p.getD a 0=now then old else p.getD a 0:=by
 rw[zh1,zh1];simp only[ef,List.getElem?_mapIdx,gE h,Option.map_some,Option.getD_some,hm,true_and]
theorem B8 {i:Nat}{c:Int}{es:List En}(h:∀ e∈es,e.fst<i+1):jE i c es<i+1:=by
 induction es with
 | nil=>exact Nat.lt_succ_self i
 | cons e r ih =>
  unfold jE;split
  ·exact h e (by simp)
  ·exact ih fun x hx=>h x (by simp[hx])
theorem wQ {P:En→Prop}{i:Nat}{c p:Int}(hn:P (En.up ⟨c,0,0,i⟩ p))(hu:∀ e,P e→P (e.up p))(ho:∀ e,P e→P e):∀ {es:List En},(∀ e∈es,P e)→∀ e∈kK i c p es,P e
 | [],_,e,he=>by simp[kK] at he; subst he; exact hn
 | x::r,h,e,he=>by
  unfold kK at he;split at he
  ·rcases zf1.1 he with rfl | he
   ·exact hu x (h x<|by simp)
   ·exact h e (by simp[he])
  ·rcases zf1.1 he with rfl | he
   ·exact h e (by simp)
   ·exact wQ hn hu ho (fun y hy=>h y<|by simp[hy]) e he
theorem wW {P:Int→Prop}{c:Int}{i:Int}(hi:P i):∀ {ml:List (Int×List Int)},(∀ p∈ml,∀ x∈p.2,P x)→∀ p∈gH ml c i,∀ x∈p.2,P x
 | [],_,p,hp,x,hx=>by simp[gH] at hp; subst hp; simp at hx; subst hx; exact hi
 | (k,l)::r,h,p,hp,x,hx=>by
  unfold gH at hp;split at hp
  ·rcases zf1.1 hp with rfl | hp
   ·rcases zf3.1 hx with hx | hx
    ·exact h (k,l) (by simp) x hx
    ·simp at hx; subst hx; exact hi
   ·exact h p (by simp[hp]) x hx
  ·rcases zf1.1 hp with rfl | hp
   ·exact h (k,l) (by simp) x hx
   ·exact wW hi (fun q hq=>h q<|by simp[hq]) p hp x hx
theorem Sd.next {n t i:Nat}{es:List En}{part:List Int}{zl:List (Int×Int)}{ml:List (Int×List Int)}{x r:Side}(h:Sd n t (i+1) es part zl ml)(hi:i<n)(ht:t<1000000)(hx:x.sign=1∨x.sign = -1)(hr:r.sign=1∨r.sign = -1) :
  Sd n (t+1) (i+1) (lz i x.sign (es,part) r).1 (lz i x.sign (es,part) r).2 (tG x zl r) (fY i ml r):=by
 have hp:=wj hx hr;have hw:wr (x.sign * r.sign)=x.sign * r.sign:=rD oM;unfold lz tG fY;dsimp only;rw[hw];generalize x.sign * r.sign=p at *;have hl:=h.len;have hbm:=CG (i:=i) (c:=r.cell) (p:=p) h.m fun e he=>by have:=h.bz e he; exact rD oM
 have hf:=B8 (c:=r.cell) h.bf;refine⟨CF h.z (fun e he=>by have:=h.bz e he; exact rD oM) (by rw[Int.zero_add]; exact rD oM),hbm.1,?_,?_,?_,by rw[ll]; exact hl,fun a ha=>?_,fun a b ha hb=>?_⟩
 ·have:∀ e∈kK i r.cell p es,(-(t:Int)≤e.sum∧e.sum≤t∧0≤e.many∧e.many≤t)∨(-((t+1:Nat):Int)≤e.sum∧e.sum≤((t+1:Nat):Int)∧0≤e.many∧e.many≤((t+1:Nat):Int)):=by
   have h0:=h.bz;clear h hbm hf hl;generalize hes:kK i r.cell p es=fs;intro e he;subst hes;induction es with
   | nil =>
    simp[kK] at he;subst he;right;simp only[En.up];rw[rD oM,rD oM];omega
   | cons y q ih =>
    unfold kK at he;split at he
    ·rcases zf1.1 he with rfl | he
     ·right;have:=h0 y (by simp);simp only[En.up];rw[rD oM,rD oM];omega
     ·exact .inl (h0 e<|by simp[he])
    ·rcases zf1.1 he with rfl | he
     ·exact .inl (h0 e<|by simp)
     ·exact ih (fun z hz=>h0 z<|by simp[hz]) he
  intro e he
  rcases this e he with h1 | h1 <;> omega
 ·exact wQ (P:=fun e=>e.fst<i+1) (Nat.lt_succ_self i) (fun e he=>he) (fun e he=>he) h.bf
 ·exact wW (P:=fun x=>0≤x∧x<((i+1:Nat):Int)) oM h.bm
 ·rw[kA oM ha];split
  ·exact h.bp _ hf
  ·exact h.bp a ha
 ·rw[kA oM ha,kA oM hb,Cn.add (x:=(jE i r.cell es:Int)) (y:=(i:Int)) hbm.2 a b];rw[← h.cn a b ha hb,← h.cn a _ ha hf,← h.cn i b oM hb,← h.cn a i ha oM,← h.cn _ b hf hb];generalize part.getD a 0=pa;generalize part.getD b 0=pb;generalize part.getD i 0=pi;generalize part.getD (jE i r.cell es) 0=pf;by_cases h1:pa=pi <;> by_cases h2:pb=pi <;> simp[h1,h2] <;> omega
theorem Sd.inner {n i:Nat}{x:Side}(hi:i<n)(hx:x.sign=1∨x.sign = -1):∀ (l:List Side) {t:Nat} {es:List En} {part:List Int} {zl:List (Int×Int)} {ml:List (Int×List Int)},Sd n t (i+1) es part zl ml→t+l.length<1000000→(∀ r∈l,r.sign=1∨r.sign = -1) →
  Sd n (t+l.length) (i+1) (l.foldl (lz i x.sign) (es,part)).1 (l.foldl (lz i x.sign) (es,part)).2 (l.foldl (tG x) zl) (l.foldl (fY i) ml)
 | [],_,_,_,_,_,h,_,_=>h
 | r::l,t,es,part,zl,ml,h,ht,hr=>by
  simp only[ze8] at ht;have h1:=h.next (x:=x) (r:=r) hi oM hx (hr r<|by simp);have:=Sd.inner hi hx l h1 oM (fun q hq=>hr q<|by simp[hq]);simp only[zi7,ze8];rw[show t+(l.length+1)=t+1+l.length by omega];exact this
theorem Sd.outer {tl:List Cl}{n:Nat}:∀ (l:List Side) {t k:Nat} {es:List En} {part:List Int} {zl:List (Int×Int)} {ml:List (Int×List Int)},Sd n t k es part zl ml→k+l.length≤n→t+64 * l.length<1000000→(∀ x∈l,x.sign=1∨x.sign = -1)→(∀ x∈l,(aV tl x).length≤64∧∀ r∈aV tl x,r.sign=1∨r.sign = -1) →
  ∃ t',Sd n t' (k+l.length) ((l.zipIdx k).foldl (nt tl) (es,part)).1 ((l.zipIdx k).foldl (nt tl) (es,part)).2 (l.foldl (fun zl x=>(aV tl x).foldl (tG x) zl) zl)<|(l.zipIdx k).foldl (fun ml p=>(aV tl p.1).foldl (fY p.2) ml) ml
 | [],t,_,_,_,_,_,h,_,_,_,_=>⟨t,h⟩
 | x::l,t,k,es,part,zl,ml,h,hk,ht,hs,hq=>by
  simp only[ze8] at hk ht;have h0:=hq x (by simp);have h1:=(h.open oM).inner (x:=x) oM (hs x<|by simp) (aV tl x) oM h0.2;obtain ⟨t',h2⟩:=Sd.outer l h1 oM oM (fun y hy=>hs y<|by simp[hy]) (fun y hy=>hq y<|by simp[hy]);refine⟨t',?_⟩;simp only[List.zipIdx_cons,zi7,ze8];rw[show k+(l.length+1)=k+1+l.length by omega];exact h2
theorem nU {α β:Type}{R:α→β→Prop}{p:α→Bool}{q:β→Bool}(h:∀ a b,R a b→p a=q b):∀ {l:List α} {m:List β},az R l m→l.any p=m.any q
 | [],[],_=>rfl
 | a::l,b::m,hr=>by simp only[List.any_cons,h a b hr.1,nU h hr.2]
 | [],_::_,hr=>hr.elim
 | _::_,[],hr=>hr.elim
theorem CC {ml:List (Int×List Int)}(h2:∀ p∈ml,p.2.length=2)(a b:Int):Rch (kg<|eu ml) a b↔Cn (gv ml) a b:=by
 have hstep:∀ x y,y∈jt (eu ml) x→Cn (gv ml) x y:=fun x y hy=>by
  obtain ⟨p,hp,h⟩:=(kO ml x y).1 hy
  rcases h with h | h
  ·exact .one ⟨p,hp,by rw[h]; rfl,by rw[h]; simp⟩
  ·exact (Cn.one (E:=gv ml) ⟨p,hp,by rw[h]; rfl,by rw[h]; simp⟩).symm
 have hadj:∀ x,kg (eu ml) x≠none:=fun x=>by simp[kg]
 constructor
 ·intro h;induction h with
  | refl _ _=>exact .refl _
  | step x y _ l hl hy _ ih =>
   simp only[kg,zg7] at hl;subst hl;exact (hstep x y hy).trans ih
 ·intro h;induction h with
  | refl a=>exact .refl a<|hadj a
  | @step x y z e _ ih =>
   have key:∀ u v,gv ml u v→v=u∨v∈jt (eu ml) u:=fun u v ⟨p,hp,h3,h4⟩=>by
    have:=h2 p hp
    match hq:p.2,this with
    | [c,d],_ =>
     rw[hq] at h3 h4;simp at h3 h4;subst h3
     rcases h4 with h4 | h4
     ·exact .inl h4
     ·exact .inr<|(kO ml c v).2 ⟨p,hp,.inl (by rw[hq,h4])⟩
   rcases e with e | e
   ·rcases key x y e with rfl | h5
    ·exact ih
    ·exact .step x y z _ I h5 ih
   ·rcases key y x e with rfl | h5
    ·exact ih
    ·refine .step x y z _ I ?_ ih;obtain ⟨p,hp,h6⟩:=(kO ml y x).1 h5;exact (kO ml x y).2 ⟨p,hp,h6.symm⟩
theorem s3 {l:List Int}(hn:l.Nodup)(hb:∀ x∈l,0≤x):(l.map Int.toNat).Nodup:=by
 rw[List.Nodup,zk5];refine List.Pairwise.imp_of_mem ?_ hn;intro a b ha hb' hne e;have:=hb a ha;have:=hb b hb';omega
theorem s4 {l:List Int}{n:Nat}(hn:l.Nodup)(hb:∀ x∈l,0≤x∧x<(n:Int)):l.length≤n:=by
 have h1:=s3 hn fun x hx=>(hb x hx).1;have:=eW (l:=List.range n) h1 List.nodup_range fun x hx=>by
  obtain ⟨y,hy,rfl⟩:=zf2.1 hx;have:=hb y hy;exact List.mem_range.2 oM
 simpa using this
theorem rP {tl:List Cl}{c:Cl}(hok:AOk tl c)(h0:0<c.sides.length):iM tl c=cH tl c:=by
 obtain ⟨h64,hs,hq⟩:=hok;have start:Sd c.sides.length 0 0 [] (List.replicate c.sides.length 0) [] []:=⟨trivial,trivial,by simp,by simp,by simp,by simp,by simp,fun a b ha=>by omega⟩;obtain ⟨t,hd⟩:=start.outer c.sides (tl:=tl) oM oM hs hq;have e1:((c.sides.zipIdx 0).foldl (nt tl) ([],List.replicate c.sides.length 0))=mo tl c.sides c.sides.length:=rfl;rw[e1] at hd;have hz:az RZ (mo tl c.sides c.sides.length).1 (ly tl c.sides):=hd.z;have hm:az RM (mo tl c.sides c.sides.length).1 (iX tl c.sides):=hd.m;unfold iM cH;rw[nU (p:=fun e=>decide (e.sum≠0)) (q:=fun p:Int×Int=>decide (p.2≠0)) (fun a b h=>by rw[h.2]) hz];rw[nU (p:=fun e=>decide (e.many≠2)) (q:=fun p:Int×List Int=>decide ((p.2.length:Int)≠2)) (fun a b h=>by rw[h.2.1]) hm];split
 ·rfl
 ·split
  ·rfl
  ·rename_i hno;have h2:∀ p∈iX tl c.sides,p.2.length=2:=fun p hp=>by
    have:=zk6.1 ((zj7 _).mp hno) p hp;simp at this;omega
   have hbm:∀ p∈iX tl c.sides,∀ x∈p.2,0≤x∧x<((0+c.sides.length:Nat):Int):=hd.bm;rw[Nat.zero_add] at hbm;have hcn:∀ a b:Nat,a<c.sides.length→b<c.sides.length→((mo tl c.sides c.sides.length).2.getD a 0=(mo tl c.sides c.sides.length).2.getD b 0↔Rch (kg<|eu<|iX tl c.sides) a b):=fun a b ha hb=>by
    rw[CC h2];exact hd.cn a b oM oM
   have hln:=hd.len;have hmem:∀ x:Int,x∈mn (eu<|iX tl c.sides)↔Rch (kg<|eu<|iX tl c.sides) 0 x:=fun x=>yY (cnt:=o0<|eu<|iX tl c.sides) (fun v v' h=>lg h) (oH _) (Nat.lt_succ_of_le<|zc5 _ _) (by simp[kg]) x;have hnd:(mn<|eu<|iX tl c.sides).Nodup:=lf _ _ _ _ (by simp);have hin:∀ x∈mn (eu<|iX tl c.sides),0≤x∧x<(c.sides.length:Int):=fun x hx=>by
    have hr:=(CC h2 0 x).1<|(hmem x).1 hx;have:∀ a b,Cn (gv<|iX tl c.sides) a b→(0≤a∧a<(c.sides.length:Int))→(0≤b∧b<(c.sides.length:Int)):=by
     intro a b h;induction h with
     | refl _=>exact fun h=>h
     | step e _ ih =>
      intro _
      rcases e with e | e
      ·exact ih (k9 hbm e).2
      ·exact ih (k9 hbm e).1
    exact this 0 x hr oM
   generalize (mo tl c.sides c.sides.length).2=part at *;generalize mn (eu<|iX tl c.sides)=seen at *;by_cases hall:∀ a,a<c.sides.length→part.getD a 0=part.getD 0 0
   ·have hf:part.any (fun x=>decide (x≠part.getD 0 0))=false:=by
     rw[zk6];intro x hx;obtain ⟨i,hi,rfl⟩:=zc7 hx;have:=hall i oM;rw[zh1,gE hi] at this;simpa using this
    have hlen:seen.length=c.sides.length:=by
     refine Nat.le_antisymm (s4 hnd hin) ?_;have h3:=eW (m:=List.range c.sides.length) (l:=seen.map Int.toNat) List.nodup_range (s3 hnd fun x hx=>(hin x hx).1) fun i hi=>by
      have hi:=List.mem_range.1 hi;exact zf2.2 ⟨(i:Int),(hmem i).2<|(hcn 0 i h0 hi).1 (hall i hi).symm,by simp⟩
     simpa using h3
    rw[hf,hlen];simp
   ·have ht:part.any (fun x=>decide (x≠part.getD 0 0))=true:=by
     simp only[Classical.not_forall] at hall;obtain ⟨a,ha,hne⟩:=hall;rw[zj8];refine⟨part.getD a 0,?_,by simpa using hne⟩;rw[zh1,gE oM];exact gM _
    have hlen:(seen.length:Int)≠c.sides.length:=by
     simp only[Classical.not_forall] at hall;obtain ⟨a,ha,hne⟩:=hall;have hna:(a:Int) ∉ seen:=fun h=>hne ((hcn 0 a h0 ha).2<|(hmem a).1 h).symm;have:=s4 (l:=(a:Int)::seen) (n:=c.sides.length) (zk3.2 ⟨hna,hnd⟩) fun x hx=>by
      rcases zf1.1 hx with rfl | hx
      ·omega
      ·exact hin x hx
     simp at this;omega
    rw[ht,zg1 rfl,zg1 hlen]
theorem fD {tl:List Cl}:∀ {l:List Cl} {n:Int},fJ tl l n=none→l.Pairwise (fun a b=>a.id<b.id)∧(∀ x∈l,n<x.id)∧∀ x∈l,cw tl x=0
 | [],_,_=>⟨List.Pairwise.nil,by simp,by simp⟩
 | x::r,n,h=>by
  unfold fJ at h;split at h
  ·cases h
  ·rename_i hid;split at h
   ·cases h
   ·rename_i hf;obtain ⟨h1,h2,h3⟩:=fD h;refine⟨zk4.2 ⟨h2,h1⟩,fun y hy=>?_,fun y hy=>?_⟩
    ·rcases zf1.1 hy with rfl | hy
     ·omega
     ·have:=h2 y hy; omega
    ·rcases zf1.1 hy with rfl | hy
     ·exact zg9 hf
     ·exact h3 y hy
theorem eI (l:List Cl):dj l=aq l:=by
 unfold dj aq;split
 ·rfl
 ·cases h:fJ (aW l) (aa l) 0 with
  | some p=>rfl
  | none =>
   obtain ⟨h1,_,h3⟩:=fD h;have ht:=bB h1;have key:∀ m:List Cl,(∀ x∈m,x∈aa l)→my (aa l) m=nk (aW l) m:=by
    intro m;induction m with
    | nil=>intro _; rfl
    | cons x r ih =>
     intro hm;have hx:=hm x (by simp);unfold my nk;rw[ih fun y hy=>hm y (by simp[hy])];by_cases hd:x.dim>1
     ·have hok:=yx h3 hx;have hn:0<x.sides.length:=by
       have hf:=h3 x hx;unfold cw at hf;split at hf
       ·cases hf
       ·split at hf
        ·cases hf
        ·rename_i hc;simp[aY] at hc;have:=hc.2 hd;omega
      rw[ht] at hok ⊢;rw[rP hok hn]
     ·simp[hd]
   rw[key _ fun x hx=>hx]
set_option maxRecDepth 10000
theorem Ch {l:List Cl}(h:(aq l).2=0):fJ (aW l) (aa l) 0=none:=by
 unfold aq at h;split at h
 ·simp at h
 ·cases h1:fJ (aW l) (aa l) 0 with
  | none=>rfl
  | some p=>rw[h1] at h; exact absurd h<|zh h1
def cd (A B:Nat):Int:=((A * 1000+B:Nat):Int)
section
variable {A:List (List Int)}(hA:hX A)
include hA
end
theorem DF {tl:List Cl}{c:Cl}(h1:0≤c.dim∧c.dim≤8)(h2:aY c=false)(h3:∀ x∈c.sides,∃ d,ao tl x.cell=some d∧d.dim=c.dim - 1)(h4:c.sides.Pairwise fun a b=>a.cell<b.cell)(h5:∀ x∈c.sides,x.sign=1∨x.sign = -1)(h6:c.dim=1→kW c.sides=0):cw tl c=0:=by
 have e1:eL c=false:=by unfold eL; simp; omega
 have e3:(List.range c.sides.length).any (ff tl c)=false:=by
  rw[zk6];intro i hi;have hi:=List.mem_range.1 hi;obtain ⟨d,hd1,hd2⟩:=h3 _<|gM hi;unfold ff;rw[gE hi];show ¬ bI _ _ i c.sides[i]=true;unfold bI;rw[hd1];simp only[Option.isSome_some,Bool.not_true,Bool.false_or,Option.getD_some,hd2,ne_eq,not_true_eq_false,decide_false];by_cases hi0:i>0
  ·have hlt:=zc9.1 h4 (i - 1) i oM hi oM;rw[gE oM];simp;omega
  ·simp[hi0]
 have e4:c.sides.any bF=false:=by
  rw[zk6];intro x hx
  rcases h5 x hx with h | h <;> simp[bF,h]
 have e5:(decide (c.dim=1)&&decide (kW c.sides≠0))=false:=by
  by_cases hd:c.dim=1
  ·rw[h6 hd]; simp
  ·simp[hd]
 unfold cw;rw[e1,h2,e3,e4,e5];rfl
section
variable {A B:List (List Int)}(hA:hX A)(hB:hX B)
include hA hB
omit hA in
omit hA in
end
section
variable {A B:List (List Int)}(hA:hX A)(hB:hX B)
include hA hB
end
structure Few (a:List Cl)(A:List (List Int)):Prop where
 good:hX A
 cells:a=A.map (iZ A)
 small:∀ s∈A,s.length≤3
 few:A.length≤14
structure Fm (tl:List Cl)(c:Cl):Prop where
 dim:0≤c.dim∧c.dim≤8
 cnt:aY c=false
 found:∀ x∈c.sides,∃ d,ao tl x.cell=some d∧d.dim=c.dim - 1
 asc:c.sides.Pairwise fun a b=>a.cell<b.cell
 sg:∀ x∈c.sides,x.sign=1∨x.sign = -1
 one:c.dim=1→kW c.sides=0
theorem Fm.ok {tl:List Cl}{c:Cl}(h:Fm tl c):cw tl c=0:=DF h.dim h.cnt h.found h.asc h.sg h.one
theorem Ez {l:List Side}(hs:l.Pairwise fun a b=>a.cell≤b.cell)(hd:∀ i x y,l[i]?=some x→l[i+1]?=some y→x.cell≠y.cell):l.Pairwise fun a b=>a.cell<b.cell:=by
 induction l with
 | nil=>exact List.Pairwise.nil
 | cons a r ih =>
  obtain ⟨h1,h2⟩:=zk4.1 hs;have hr:=ih h2 fun i x y hx hy=>hd (i+1) x y (by simpa using hx) (by simpa using hy);refine zk4.2 ⟨fun b hb=>?_,hr⟩;cases r with
  | nil=>simp at hb
  | cons z q =>
   have hz:a.cell<z.cell:=by
    have:=h1 z (by simp);have:=hd 0 a z rfl rfl;omega
   rcases zf1.1 hb with rfl | hb
   ·exact hz
   ·have:=(zk4.1 hr).1 b hb;omega
theorem DW {tl:List Cl}{c:Cl}(h:cw tl c=0)(hs:c.sides.Pairwise fun a b=>a.cell≤b.cell):Fm tl c:=by
 unfold cw at h;split at h
 ·cases h
 ·rename_i h1;split at h
  ·cases h
  ·rename_i h2;split at h
   ·cases h
   ·rename_i h3;split at h
    ·cases h
    ·rename_i h4;split at h
     ·cases h
     ·rename_i h5;have hbad:∀ i x,c.sides[i]?=some x→bI tl c i x=false:=fun i x hx=>by
       have hi:=(zf5.1 hx).1;have:=zk6.1 ((zj7 _).mp h3) i<|List.mem_range.2 hi;unfold ff at this;rw[hx] at this;simpa using this
      refine⟨?_,by simpa using h2,fun x hx=>?_,Ez hs fun i x y hx hy e=>?_,fun x hx=>?_,fun hd=>?_⟩
      ·simp[eL] at h1; omega
      ·obtain ⟨i,hi,rfl⟩:=zc7 hx;have:=hbad i _<|gE hi;unfold bI at this;simp only[Bool.or_eq_false_iff,Bool.not_eq_false',decide_eq_false_iff_not,ne_eq,Decidable.not_not] at this;obtain ⟨⟨g1,g2⟩,_⟩:=this;obtain ⟨d,hd⟩:=zh8.1 g1;rw[hd] at g2;exact⟨d,hd,g2⟩
      ·have:=hbad (i+1) y hy;unfold bI at this;rw[show i+1 - 1=i by omega,hx] at this;simp[e] at this
      ·have:=zk6.1 ((zj7 _).mp h4) x hx;simp[bF] at this;by_cases h6:x.sign=1
       ·exact .inl h6
       ·exact .inr<|this h6
      ·simpa [hd] using h5
structure Rt (l:List Cl):Prop where
 few:l.length≤4000
 asc:l.Pairwise fun a b=>a.id<b.id
 pos:∀ x∈l,0<x.id
 form:∀ x∈l,Fm l x
 around:∀ x∈l,x.dim>1→cH l x=0
theorem Rt.canon {l:List Cl}(h:Rt l):aa l=l:=by
 unfold aa;rw[(bG (key:=Cl.id) (h.asc.imp fun h=>by omega)<|aA.refl l).symm];have:∀ c∈l,dn c=c:=fun c hc=>by
  unfold dn;rw[(bG (key:=Side.cell) ((h.form c hc).asc.imp fun h=>by omega)<|aA.refl c.sides).symm]
 rw[zc8 this];simp
theorem Rt.tab {l:List Cl}(h:Rt l):aW l=l:=by rw[bB (by rw[h.canon]; exact h.asc),h.canon]
theorem Rt.find {l:List Cl}(h:Rt l){c:Cl}(hc:c∈l):ao l c.id=some c:=by
 refine rq ?_ hc;rw[List.Nodup,zk5];exact h.asc.imp fun h=>by omega
theorem km {tl:List Cl}:∀ {l:List Cl},nk tl l=none→∀ x∈l,x.dim>1→cH tl x=0
 | [],_,x,hx,_=>by simp at hx
 | y::r,h,x,hx,hd=>by
  unfold nk at h;split at h
  ·cases h
  ·rename_i hn
   rcases zf1.1 hx with rfl | hx
   ·exact zg9 fun h=>hn ⟨hd,h⟩
   ·exact km h x hx hd
theorem th {tl:List Cl}:∀ {l:List Cl} {p:Int×Int},nk tl l=some p→p.2≠0
 | [],_,h=>by cases h
 | y::r,p,h=>by
  unfold nk at h;split at h
  ·rename_i hn; cases h; exact hn.2
  ·exact th h
theorem oJ (l:List Cl):∀ c∈aa l,c.sides.Pairwise fun a b=>a.cell≤b.cell:=fun c hc=>by
 obtain ⟨d,_,rfl⟩:=zf2.1 hc;exact ck d.sides
theorem mq {l:List Cl}(h:(aq l).2=0):Rt (aa l):=by
 have h1:=Ch h;obtain ⟨h2,h3,h4⟩:=fD h1;have ht:=bB h2;have h5:l.length≤4000:=tq h;refine⟨by rw[aN]; exact h5,h2,h3,fun x hx=>DW (by rw[← ht]; exact h4 x hx)<|oJ l x hx,?_⟩;have h6:nk (aW l) (aa l)=none:=by
  unfold aq at h;rw[zf9 oM,h1] at h;cases hc:nk (aW l) (aa l) with
  | none=>rfl
  | some p =>
   rw[hc] at h;exact absurd h<|th hc
 rw[ht] at h6;exact km h6
theorem Aa {l m:List Int}(h:l.Perm m):l.sum=m.sum:=by
 induction h with
 | nil=>rfl
 | cons x _ ih=>simp[ih]
 | swap x y l=>simp; omega
 | trans _ _ ih1 ih2=>exact ih1.trans ih2
theorem n9 {α:Type}{key:α→Int}(l:List α):(sortBy key l).Perm l:=by
 have hi:∀ (x:α) (l:List α),(ins key x l).Perm (x::l):=by
  intro x l;induction l with
  | nil=>exact .refl _
  | cons y r ih =>
   unfold ins;split
   ·exact .refl _
   ·exact (ih.cons y).trans<|.swap x y r
 induction l with
 | nil=>exact .refl _
 | cons x r ih=>exact (hi x _).trans<|ih.cons x
def inner (tl:List Cl)(x:Side)(r:Int):Int:=((aV tl x).map fun q=>if q.cell=r then x.sign * q.sign else 0).sum
structure Nm (l:List Cl)(k:Int):Prop where
 inj:∀ a∈l,∀ b∈l,EF a.id k=EF b.id k→a=b
 pos:∀ a∈l,0<EF a.id k
section
variable {l:List Cl}(h:Rt l){k:Int}(hn:Nm l k)(t:Int)
include h hn
omit hn in
omit h hn in
omit h hn in
omit h hn in
omit hn in
omit h hn in
end
def Bd (l:List Cl):Prop:=∀ c∈l,c.id≤l.length
theorem Dh (ls:List (List Int)):Rt (fZ ls)∧Bd (fZ ls):=by
 have h1:=mq (l:=fZ ls) (by rw[uK]);have h2:aa (fZ ls)=fZ ls:=by
  unfold fZ;cases cE [] ls with
  | none=>rfl
  | some all=>exact gz _
 rw[h2] at h1;refine⟨h1,?_⟩;unfold fZ;cases h:cE [] ls with
 | none=>intro c hc; simp at hc
 | some all =>
  obtain ⟨hg,_⟩:=gU ls [] h hX.nil (by simp);dsimp only;rw[hg.cells];intro c hc;obtain ⟨s,hs,rfl⟩:=zf2.1 hc;have:=(zf5.1<|hg.get_lb hs).1;show ixC all s≤_;unfold ixC;rw[ze6];omega
def part (l:List Cl)(p:Int→Bool):List Cl:=l.filter fun c=>p c.id
def zq (l:List Cl)(p:Int→Bool):Prop:=∀ c∈l,p c.id=true→∀ x∈c.sides,p x.cell=true
theorem sY {l:List Cl}{p:Int→Bool}{id:Int}(hp:p id=true):ao (part l p) id=ao l id:=by
 unfold ao part;induction l with
 | nil=>rfl
 | cons c r ih =>
  rw[zi6];by_cases hc:c.id=id
  ·rw[zg1 (by rw[hc]; exact hp)];simp[hc]
  ·split
   ·simp only[zi5,hc,decide_false];exact ih
   ·simp only[zi5,hc,decide_false];exact ih
theorem xC {l:List Cl}(h:Rt l){p:Int→Bool}(hp:zq l p):Rt (part l p):=by
 have hsub:(part l p).Sublist l:=List.filter_sublist;refine⟨zk8 hsub.length_le h.few,h.asc.sublist hsub,fun x hx=>h.pos x<|hsub.subset hx,fun c hc=>?_,fun c hc hd=>?_⟩
 ·obtain ⟨hc1,hc2⟩:=zh4.1 hc;have hf:=h.form c hc1;exact⟨hf.dim,hf.cnt,fun x hx=>by rw[sY<|hp c hc1 hc2 x hx]; exact hf.found x hx,hf.asc,hf.sg,hf.one⟩
 ·obtain ⟨hc1,hc2⟩:=zh4.1 hc;rw[← h.around c hc1 hd,gt,gt];congr 1;unfold j5;refine zc8 fun x hx=>?_;unfold aV;rw[sY<|hp c hc1 hc2 x hx]
theorem xB {l F:List Cl}(hF:Rt F)(hp:l.Perm F):aa l=F:=by
 have hc:=hF.canon;have hs:sortBy Cl.id l=F:=by
  refine (bG (hF.asc.imp fun h=>by omega) ⟨hp.length_eq.symm,fun k=>?_⟩).symm;have h1:(l.filter fun a=>a.id == k).Perm (F.filter fun a=>a.id == k):=hp.filter _;have h3:(F.filter fun a=>a.id == k).Pairwise fun a b=>a.id<b.id:=hF.asc.sublist List.filter_sublist;have h5:∀ a∈F.filter (fun a=>a.id == k),a.id=k:=fun a ha=>by simpa using (zh4.1 ha).2
  generalize F.filter (fun a=>a.id == k)=m at *
  match m,h1,h3,h5 with
  | [],h1,_,_=>exact (List.perm_nil.1 h1).symm
  | [a],h1,_,_=>exact (List.perm_singleton.1 h1).symm
  | a::b::r,_,h3,h5 =>
   have h4:=(zk4.1 h3).1 b (by simp);have h6:=h5 a (by simp);have h7:=h5 b (by simp);omega
 unfold aa at hc ⊢;rw[hs];have hs2:sortBy Cl.id F=F:=(bG (key:=Cl.id) (hF.asc.imp fun h=>by omega)<|aA.refl F).symm;rw[hs2] at hc;exact hc
theorem Rt.same {l:List Cl}(h:Rt l){a b:Cl}(ha:a∈l)(hb:b∈l)(e:a.id=b.id):a=b:=by
 have f1:=h.find ha;have f2:=h.find hb;rw[e,f2] at f1;injection f1 with f1
 exact f1.symm
theorem az.set {α β:Type}{R:α→β→Prop}{a:α}{b:β}(h:R a b):∀ {l:List α} {m:List β} (k:Nat),az R l m→az R (l.set k a) (m.set k b)
 | [],[],_,_=>trivial
 | _::_,_::_,0,h'=>⟨h,h'.2⟩
 | _::_,_::_,k+1,h'=>⟨h'.1,az.set h k h'.2⟩
 | [],_::_,_,h'=>h'.elim
 | _::_,[],_,h'=>h'.elim
def ShC (a b:Cl):Prop:=a.id=b.id∧a.dim=b.dim∧a.sides.Perm b.sides
def ShL (l m:List Cl):Prop:=∃ l1:List Cl,l1.Perm l∧az ShC l1 m
theorem ShL.fits {l m:List Cl}(h:ShL l m)(hf:a8 l):a8 m:=by
 obtain ⟨l1,h1,h2⟩:=h;refine⟨by rw[← h2.length,h1.length_eq]; exact hf.1,fun c hc=>?_⟩;have:∀ {l m:List Cl},az ShC l m→∀ c∈m,∃ d∈l,ShC d c:=by
  intro l;induction l with
  | nil=>intro m h c hc; cases m with | nil=>cases hc | cons _ _=>exact h.elim
  | cons x t ih =>
   intro m h c hc;cases m with
   | nil=>cases hc
   | cons y m =>
    rcases zf1.1 hc with rfl | hc
    ·exact⟨x,by simp,h.1⟩
    ·obtain ⟨d,hd,he⟩:=ih h.2 c hc;exact⟨d,by simp[hd],he⟩
 obtain ⟨d,hd,he⟩:=this h2 c hc;rw[← he.2.2.length_eq];exact hf.2 d<|h1.mem_iff.1 hd
end Go.Proofs.YtmmghffoakhheaaGreatDoor
