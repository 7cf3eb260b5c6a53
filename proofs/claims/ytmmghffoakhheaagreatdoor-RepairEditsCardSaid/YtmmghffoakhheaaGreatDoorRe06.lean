/- 6 -/
import Derived.Test.YtmmghffoakhheaaGreatDoorRe05
set_option linter.unusedSimpArgs false
set_option linter.unusedVariables false
namespace Go.Proofs.YtmmghffoakhheaaGreatDoor
open _root_.Go.Proofs.Tryz _root_.Go.Proofs.YtmmghffoakhheaaGreatDoor.Tryz
open Go Go.Sy Go.Pl Go.Proofs
set_option maxRecDepth 100000
theorem An {l:List Int}(hs:l.Pairwise (· ≤ ·))(x:Int):(∀ k (h:k<l.length),k<lbI l x→l[k]<x)∧(∀ k (h:k<l.length),lbI l x≤k→x≤l[k]):=by
 induction l with
 | nil=>exact⟨fun k h=>absurd h (by simp),fun k h=>absurd h (by simp)⟩
 | cons a r ih =>
  obtain ⟨h1,h2⟩:=zk4.1 hs;obtain ⟨i1,i2⟩:=ih h2;by_cases ha:a<x
  ·have hl:lbI (a::r) x=lbI r x+1:=by simp[lbI,ha]
   rw[hl];refine⟨fun k h hk=>?_,fun k h hk=>?_⟩
   ·cases k with
    | zero=>exact ha
    | succ k=>exact i1 k (by simpa using h) oM
   ·cases k with
    | zero=>omega
    | succ k=>exact i2 k (by simpa using h) oM
  ·have hz:lbI (a::r) x=0:=by
    unfold lbI;rw[List.length_eq_zero_iff,List.filter_eq_nil_iff];intro y hy
    rcases zf1.1 hy with rfl | hy
    ·simpa using Int.not_lt.1 ha
    ·have:=h1 y hy; simp; omega
   rw[hz];refine⟨fun k h hk=>absurd hk oM,fun k h _=>?_⟩;cases k with
   | zero=>exact Int.not_lt.1 ha
   | succ k =>
    have hk':k<r.length:=by simpa using h
    have:=h1 r[k] (gM hk');simp;omega
theorem qS {tl:List Cl}(hs:(tl.map Cl.id).Pairwise (· ≤ ·))(id:Int):(ao tl id=none∧atC tl id = -1)∨∃ c k,ao tl id=some c∧atC tl id=((k:Nat):Int)∧tl[k]?=some c:=by
 obtain ⟨h1,h2⟩:=An hs id;by_cases hc:(tl.map Cl.id).contains id=true
 ·right;have hm:id∈tl.map Cl.id:=by simpa using hc
  obtain ⟨c0,hc0,e0⟩:=zf2.1 hm;cases hf:ao tl id with
  | none =>
   have:=List.find?_eq_none.1 hf c0 hc0;simp[e0] at this
  | some c =>
   have hi:lbI (tl.map Cl.id) id<tl.length:=by
    rcases Nat.lt_or_ge (lbI (tl.map Cl.id) id) tl.length with h | h
    ·exact h
    ·obtain ⟨j,hj,rfl⟩:=zc7 hc0;have:=h1 j (by simpa using hj) oM;simp at this;omega
   refine⟨c,lbI (tl.map Cl.id) id,I,by unfold atC; rw[zg1 hc],?_⟩;rw[gE hi];have hge:=h2 _ (by simpa using hi)<|lR _;have hid:tl[lbI (tl.map Cl.id) id].id=id:=by
    obtain ⟨j,hj,rfl⟩:=zc7 hc0;have hji:lbI (tl.map Cl.id) id≤j:=by
     rcases Nat.lt_or_ge j (lbI (tl.map Cl.id) id) with h | h
     ·have:=h1 j (by simpa using hj) h; simp at this; omega
     ·exact h
    rcases Nat.eq_or_lt_of_le hji with h | h
    ·simp only[h]; exact e0
    ·have h3:=zc9.1 hs _ j (by simpa using hi) (by simpa using hj) h;simp at h3 hge;omega
   unfold ao at hf;rw[List.find?_eq_some_iff_getElem] at hf;obtain ⟨hp,j,hj,ej,hlt⟩:=hf;have hp':c.id=id:=by simpa using hp
   congr 1;rw[← ej];have hji:j=lbI (tl.map Cl.id) id:=by
    rcases Nat.lt_trichotomy j (lbI (tl.map Cl.id) id) with h | h | h
    ·have:=h1 j (by simpa using hj) h; simp[ej,hp'] at this
    ·exact h
    ·have:=hlt _ h; simp[hid] at this
   simp only[hji]
 ·left;have hn:id ∉ tl.map Cl.id:=by simpa using hc
  refine⟨?_,by unfold atC; rw[zf9 hc]⟩;unfold ao;rw[List.find?_eq_none];intro x hx;simp;exact fun e=>hn<|zf2.2 ⟨x,hx,e⟩
theorem zv {l:List Side}(h2:l.length=2)(hns:l.any bF=false):∃ a b,l=[a,b]∧(decide (kW l≠0))=decide (a.sign=b.sign):=by
 match l,h2 with
 | [a,b],_ =>
  simp only[List.any_cons,List.any_nil,Bool.or_false,Bool.or_eq_false_iff] at hns;have e1:a.sign=1∨a.sign = -1:=by
   have h1:=hns.1;simp only[bF,Bool.and_eq_false_iff,decide_eq_false_iff_not,ne_eq,Decidable.not_not] at h1;exact h1
  have e2:b.sign=1∨b.sign = -1:=by
   have h1:=hns.2;simp only[bF,Bool.and_eq_false_iff,decide_eq_false_iff_not,ne_eq,Decidable.not_not] at h1;exact h1
  refine⟨a,b,I,?_⟩;rw[Bool.eq_iff_iff];simp[kW];omega
theorem qx (E:World)(g:PH)(s:Own)(v:Value)(tl:List Cl)(c:Cl)(r:Rc)(hv:ak g v tl)(htl:tl.length<1099511627776)(hs:(tl.map Cl.id).Pairwise (· ≤ ·))(hc:ay g c r)(hl:c.sides.length<1099511627776) :
  Ctr Tryz.prog E 103 #[v,rcv r] g s (fun r g' s'=>r=vi (cw tl c)∧g=g'∧s=s'):=by
 obtain ⟨rs,hrs,hall⟩:=hv;have hv:ak g v tl:=⟨rs,hrs,hall⟩;have hrl:=hall.length;obtain ⟨vp,vc,rfl⟩:=hrs.form;obtain ⟨rp,rcap,rfl,hcs⟩:=dY hc;have hx0:=fun h=>hcs.based h;refine zb1 (args:=[.slice vp rs.length vc,.agg #[vi c.id,vi c.dim,.slice rp c.sides.length rcap]]) func103 I ntmps103 (bE I)<|rZ (bW (bO I) fun b3=>?_);refine aT I<|sQ ?_;refine SC.to (g':=g) (s':=pt b3 (.cells #[vi c.id,vi c.dim,.slice rp c.sides.length rcap] 54 (0,0))::s) (fun w hw=>hw) ?_;refine SC.cutB 16 (eL c) ?_ ?_
 ·refine rG<|lU (fA aw I zT3 I)<|lK (qL (v:=vi c.dim) iT3 I<|cO 0 I I)<|yL I<|lM I<|sP ?_ ?_
  ·intro h12;exact yA I<|yA I<|yA I<|yP I<|nL<|za9 (by simp_all[a7,eL] <;> omega) mI
  ·intro h12;exact lY I I I (fA aw I zT3 I)<|SL.gq (gT I I I dC) (qL (v:=vi c.dim) iT3 I<|cO 0 I I) dC<|lY I I I (gR I I)<|yF I<|nL<|za9 (by simp_all[a7,eL] <;> omega) mI
 refine iQ I (fun hdb=>?_) (fun hdb=>?_)
 ·exact rZ<|aT I<|rE<|tR<|dR (s':=s) uR<|za7 (.inl I) results103 I ⟨by unfold cw; rw[zg1 hdb],I,I⟩
 ·have hd8:0≤c.dim∧c.dim≤8:=by simp[eL] at hdb; omega
  refine kP<|tN<|rZ<|lU (fA aw I aO I)<|lK (qL (v:=.slice rp c.sides.length rcap) bh I<|cO 0 I I)<|lU (eN aI I)<|aT I<|sQ<|SC.cutB 48 (aY c) ?_ ?_
  ·refine rG<|lU (fA aw I zT3 I)<|lK (qL (v:=vi c.dim) iT3 I<|cO 0 I I)<|yE I<|lM I<|sP ?_ ?_
   ·intro h23;refine yC I<|lY I I I (gR I I)<|yP I<|lM I<|sP ?_ ?_
    ·intro h27;exact yA I<|yA I<|yA I<|yA I<|yB I<|yB I<|yA I<|yP I<|lM I<|yA I<|yA I<|yA I<|yA I<|yB I<|yB I<|yB I<|yB I<|yB I<|yB I<|yA I<|yP I<|nL<|za9 (by simp_all[a7,aY] <;> omega) mI
    ·intro h27;refine lY I I I (fA aw I zT3 I)<|SL.gq (gT I I I dC) (qL (v:=vi c.dim) iT3 I<|cO 0 I I) dC<|lY I I I (eQ I I)<|yC I<|sP ?_ ?_
     ·intro h31;refine yC I<|lY I I I (nQ I I)<|lY I I I (wT I I)<|yF I<|lM I<|sP ?_ ?_
      ·intro h36;exact yA I<|yA I<|yA I<|yA I<|yB I<|yB I<|yB I<|yB I<|yB I<|yB I<|yA I<|yP I<|nL<|za9 (by simp_all[a7,aY] <;> omega) mI
      ·intro h36;refine lY I I I (fA aw I zT3 I)<|SL.gq (gT I I I dC) (qL (v:=vi c.dim) iT3 I<|cO 0 I I) dC<|lY I I I (gR I I)<|yC I<|sP ?_ ?_
       ·intro h40;refine yC I<|lY I I I (lS I I)<|yC I<|sP ?_ ?_
        ·intro h43;exact yA I<|yA I<|lY I I I (wT I I)<|lY I I I (wT I I)<|yF I<|nL<|za9 (by simp_all[a7,aY] <;> omega) mI
        ·intro h43;exact yC I<|lY I I I (gR I I)<|lY I I I (wF I I)<|lY I I I (wT I I)<|yF I<|nL<|za9 (by simp_all[a7,aY] <;> omega) mI
       ·intro h40;exact yA I<|yA I<|yA I<|yB I<|yB I<|yA I<|lY I I I (wF I I)<|yF I<|nL<|za9 (by simp_all[a7,aY] <;> omega) mI
     ·intro h31;refine yA I<|yA I<|lY I I I (wF I I)<|yF I<|lM I<|lY I I I (fA aw I zT3 I)<|SL.gq (gT I I I dC) (qL (v:=vi c.dim) iT3 I<|cO 0 I I) dC<|lY I I I (gR I I)<|yC I<|sP ?_ ?_
      ·intro h40;refine yC I<|lY I I I (lS I I)<|yC I<|sP ?_ ?_
       ·intro h43;exact yA I<|yA I<|lY I I I (wT I I)<|lY I I I (wT I I)<|yF I<|nL<|za9 (by simp_all[a7,aY] <;> omega) mI
       ·intro h43;exact yC I<|lY I I I (gR I I)<|lY I I I (wF I I)<|lY I I I (wT I I)<|yF I<|nL<|za9 (by simp_all[a7,aY] <;> omega) mI
      ·intro h40;exact yA I<|yA I<|yA I<|yB I<|yB I<|yA I<|lY I I I (wF I I)<|yF I<|nL<|za9 (by simp_all[a7,aY] <;> omega) mI
   ·intro h23;refine yA I<|yA I<|yF I<|lM I<|lY I I I (fA aw I zT3 I)<|SL.gq (gT I I I dC) (qL (v:=vi c.dim) iT3 I<|cO 0 I I) dC<|lY I I I (eQ I I)<|yC I<|sP ?_ ?_
    ·intro h31;refine yC I<|lY I I I (nQ I I)<|lY I I I (wT I I)<|yF I<|lM I<|sP ?_ ?_
     ·intro h36;exact yA I<|yA I<|yA I<|yA I<|yB I<|yB I<|yB I<|yB I<|yB I<|yB I<|yA I<|yP I<|nL<|za9 (by simp_all[a7,aY] <;> omega) mI
     ·intro h36;refine lY I I I (fA aw I zT3 I)<|SL.gq (gT I I I dC) (qL (v:=vi c.dim) iT3 I<|cO 0 I I) dC<|lY I I I (gR I I)<|yC I<|sP ?_ ?_
      ·intro h40;refine yC I<|lY I I I (lS I I)<|yC I<|sP ?_ ?_
       ·intro h43;exact yA I<|yA I<|lY I I I (wT I I)<|lY I I I (wT I I)<|yF I<|nL<|za9 (by simp_all[a7,aY] <;> omega) mI
       ·intro h43;exact yC I<|lY I I I (gR I I)<|lY I I I (wF I I)<|lY I I I (wT I I)<|yF I<|nL<|za9 (by simp_all[a7,aY] <;> omega) mI
      ·intro h40;exact yA I<|yA I<|yA I<|yB I<|yB I<|yA I<|lY I I I (wF I I)<|yF I<|nL<|za9 (by simp_all[a7,aY] <;> omega) mI
    ·intro h31;refine yA I<|yA I<|lY I I I (wF I I)<|yF I<|lM I<|lY I I I (fA aw I zT3 I)<|SL.gq (gT I I I dC) (qL (v:=vi c.dim) iT3 I<|cO 0 I I) dC<|lY I I I (gR I I)<|yC I<|sP ?_ ?_
     ·intro h40;refine yC I<|lY I I I (lS I I)<|yC I<|sP ?_ ?_
      ·intro h43;exact yA I<|yA I<|lY I I I (wT I I)<|lY I I I (wT I I)<|yF I<|nL<|za9 (by simp_all[a7,aY] <;> omega) mI
      ·intro h43;exact yC I<|lY I I I (gR I I)<|lY I I I (wF I I)<|lY I I I (wT I I)<|yF I<|nL<|za9 (by simp_all[a7,aY] <;> omega) mI
     ·intro h40;exact yA I<|yA I<|yA I<|yB I<|yB I<|yA I<|lY I I I (wF I I)<|yF I<|nL<|za9 (by simp_all[a7,aY] <;> omega) mI
  refine iQ I (fun hcb=>?_) (fun hcb=>?_)
  ·exact rZ<|aT I<|rE<|tR<|dR (s':=s) uR<|za7 (.inl I) results103 I ⟨by unfold cw; rw[zf9 (by simp[hdb]),zg1 hcb],I,I⟩
  ·refine kP<|tN<|sQ<|rZ<|aT I<|bK<|SC.loop (ι:=Nat) (fun k=>[(0,.slice vp rs.length vc),(3,pp b3 0),(5,vi c.sides.length),(6,vi k)]) (fun _=>g)
    (fun _=>pt b3 (.cells #[vi c.id,vi c.dim,.slice rp c.sides.length rcap] 54 (0,0))::s) (fun k=>k≤c.sides.length∧(List.range k).any (ff tl c)=false) (fun k=>c.sides.length - k) 0
    sB rfl rfl ⟨zf6 _,by simp⟩ ?_
   rintro k ⟨hk,hno⟩;refine sQ<|sW I<|lM I<|yL I<|tZ<|iP I (fun hlt=>?_) (fun hlt=>?_)
   ·have hkl:k<c.sides.length:=oM;have hb1:=hx0 oM;have hjx:c.sides[((k:Nat):Int).toNat]?=some c.sides[k]:=gE hkl;have hjx':c.sides[k]?=some c.sides[k]:=gE hkl;have hprev:(k:Int)>0→∃ q,c.sides[((k:Int) - 1).toNat]?=some q∧c.sides[k - 1]?=some q:=fun h=>by
     have h2:k - 1<c.sides.length:=oM;exact⟨c.sides[k - 1],by rw[show ((k:Int) - 1).toNat=k - 1 by omega]; exact gE h2,gE h2⟩
    generalize c.sides[k]=y at *;have hbat:ff tl c k=bI tl c k y:=by unfold ff; rw[hjx']
    have hT:bI tl c k y=true→(List.range c.sides.length).any (ff tl c)=true:=fun h=>zj8.2 ⟨k,List.mem_range.2 hkl,by rw[hbat]; exact h⟩;have hF:bI tl c k y=false→(List.range<|k+1).any (ff tl c)=false:=fun h=>by rw[List.range_succ,List.any_append,hno]; simp[hbat,h]
    rcases qS hs y.cell with ⟨hfn,hat⟩ | ⟨yc,kk,hfs,hat,hyc⟩
    ·have hbad:bI tl c k y=true:=nR (by rw[hfn]; simp);refine kP<|tN<|sQ<|bK<|sW I<|lU (fA aw I aO I)<|lK (qL (v:=.slice rp c.sides.length rcap) bh I<|cO 0 I I)<|lM I<|lU (iA aI aB I I hb1 oM sL)<|lU (fC co I zT3 I hb1)<|lK (aZ (e:=encSide) (o:=0) (u:=vi y.cell) iT3 I hcs.rd hjx I)<|lW (SO.call call62 I<|jx E g _ _ tl y.cell hv htl hs) ?_;rintro _ _ _ ⟨rfl,rfl,rfl⟩;rw[hat];exact aT I<|sQ<|dW [] [(0,2),(1,2),(2,2),(3,2),(4,2),(5,2),(6,2),(7,1),(8,2),(9,1),(10,2),(11,2),(12,2),(13,2),(14,2),(15,2),(16,2),(17,2),(18,1),(19,2),(20,2),(21,2),(22,1),(23,2),(24,1),(25,2),(26,2),(27,2),(28,2),(29,1),(30,2),(31,2),(32,2)] ze3 kR<|yM I<|pU I (SU.eq (v':=vb true) (lS I I) I)<|yM I<|yG I<|yG I<|yG I<|yG I<|yI I<|yG I<|yI I<|yG I<|yG I<|pU I (wT I I)<|yM I<|yG I<|yG I<|yG I<|yH I<|SP.off1 I (zb3 I I I dC) dC<|yH I<|yH I<|yH I<|SP.off1 I (zb3 I I I dC) dC<|yH I<|SP.off1 I (zb3 I I I dC) dC<|yH I<|yH I<|yH I<|yH I<|SP.off1 I (zb3 I I I dC) dC<|yH I<|yG I<|pU I (wT I I)<|pN<|tN<|za1 I<|rZ<|aT I<|rE<|bR<|tR<|tR<|bR<|tR<|dR (s':=s) uR<|za7 (.inl I) results103 I ⟨by unfold cw; rw[zf9 (by simp[hdb]),zf9 (by simp[hcb]),zg1<|hT hbad],I,I⟩
    ·have hkk:kk<tl.length:=(zf5.1 hyc).1;have hkr:kk<rs.length:=oM;have hbv:=hrs.based oM;have hyr:=hall.get hyc<|gE hkr;have hgr:rs[((kk:Nat):Int).toNat]?=some rs[kk]:=gE hkr;have hsome:(ao tl y.cell).isSome=true:=by rw[hfs]; rfl
     have hget:((ao tl y.cell).getD bg)=yc:=by rw[hfs]; rfl
     by_cases hdm:yc.dim≠c.dim - 1
     ·have hbad:bI tl c k y=true:=tx hsome (by rw[hget]; exact hdm);refine kP<|tN<|sQ<|bK<|sW I<|lU (fA aw I aO I)<|lK (qL (v:=.slice rp c.sides.length rcap) bh I<|cO 0 I I)<|lM I<|lU (iA aI aB I I hb1 oM sL)<|lU (fC co I zT3 I hb1)<|lK (aZ (e:=encSide) (o:=0) (u:=vi y.cell) iT3 I hcs.rd hjx I)<|lW (SO.call call62 I<|jx E g _ _ tl y.cell hv htl hs) ?_;rintro _ _ _ ⟨rfl,rfl,rfl⟩;rw[hat];refine aT I<|sQ<|dW [] [(0,2),(1,2),(2,2),(3,2),(4,2),(5,2),(6,2),(7,1),(8,2),(9,1),(10,2),(11,2),(12,2),(13,2),(14,2),(15,2),(16,2),(17,2),(18,1),(19,2),(20,2),(21,2),(22,1),(23,2),(24,1),(25,2),(26,2),(27,2),(28,2),(29,1),(30,2),(31,2),(32,2)] ze3 kR<|yM I<|pU I (SU.eq (v':=vb false) (lS I I)<|ze2 vb<|zf7 oM)<|yM I<|yJ I<|yJ I<|zb2 I (gT I I I dC) (iA aF au I I hbv oM sL) dC<|zb2 I (gT I I I dC) (fC aw I zT3 I hbv) dC<|SP.gq I (gT I I I dC) (aZ (e:=encCell) (o:=1) (u:=vi rs[kk].dim) iT3 I hrs.rd hgr I) dC<|zb2 I (gT I I I dC) (fA aw I zT3 I) dC<|SP.gq I (gT I I I dC) (qL (v:=vi c.dim) iT3 I<|cO 0 I I) dC<|zb2 I (gT I I I dC) (sU I I oM) dC<|zb2 I (gT I I I dC) (SU.eq (v':=vb true) (nQ I I)<|ze2 vb<|zf8 (by rw[hyr.2.1]; exact hdm)) dC ?_;exact pU I (wF I I)<|yM I<|yG I<|yG I<|yG I<|yH I<|SP.off1 I (zb3 I I I dC) dC<|yH I<|yH I<|yH I<|SP.off1 I (zb3 I I I dC) dC<|yH I<|SP.off1 I (zb3 I I I dC) dC<|yH I<|yH I<|yH I<|yH I<|SP.off1 I (zb3 I I I dC) dC<|yH I<|yG I<|pU I (wT I I)<|pN<|tN<|za1 I<|rZ<|aT I<|rE<|bR<|tR<|tR<|bR<|tR<|dR (s':=s) uR<|za7 (.inl I) results103 I ⟨by unfold cw; rw[zf9 (by simp[hdb]),zf9 (by simp[hcb]),zg1<|hT hbad],I,I⟩
     ·by_cases hk0:(k:Int)>0
      ·obtain ⟨q,hq1,hq2⟩:=hprev hk0;have hbd:=tu (i:=k) hsome (by rw[hget]; exact hdm) hk0 hq2;refine kP<|tN<|sQ<|bK<|sW I<|lU (fA aw I aO I)<|lK (qL (v:=.slice rp c.sides.length rcap) bh I<|cO 0 I I)<|lM I<|lU (iA aI aB I I hb1 oM sL)<|lU (fC co I zT3 I hb1)<|lK (aZ (e:=encSide) (o:=0) (u:=vi y.cell) iT3 I hcs.rd hjx I)<|lW (SO.call call62 I<|jx E g _ _ tl y.cell hv htl hs) ?_;rintro _ _ _ ⟨rfl,rfl,rfl⟩;rw[hat];refine aT I<|sQ<|dW [] [(0,2),(1,2),(2,2),(3,2),(4,2),(5,2),(6,2),(7,1),(8,2),(9,1),(10,2),(11,2),(12,2),(13,2),(14,2),(15,2),(16,2),(17,2),(18,1),(19,2),(20,2),(21,2),(22,1),(23,2),(24,1),(25,2),(26,2),(27,2),(28,2),(29,1),(30,2),(31,2),(32,2)] ze3 kR<|yM I<|pU I (SU.eq (v':=vb false) (lS I I)<|ze2 vb<|zf7 oM)<|yM I<|yJ I<|yJ I<|zb2 I (gT I I I dC) (iA aF au I I hbv oM sL) dC<|zb2 I (gT I I I dC) (fC aw I zT3 I hbv) dC<|SP.gq I (gT I I I dC) (aZ (e:=encCell) (o:=1) (u:=vi rs[kk].dim) iT3 I hrs.rd hgr I) dC<|zb2 I (gT I I I dC) (fA aw I zT3 I) dC<|SP.gq I (gT I I I dC) (qL (v:=vi c.dim) iT3 I<|cO 0 I I) dC<|zb2 I (gT I I I dC) (sU I I oM) dC<|zb2 I (gT I I I dC) (SU.eq (v':=vb false) (nQ I I)<|ze2 vb<|zf7 (by rw[hyr.2.1]; exact hdm)) dC ?_;refine pU I (wF I I)<|yM I<|yJ I<|zb2 I (gT I I I dC) (SU.eq (v':=vb true) (gR I I)<|ze2 vb<|zf8 hk0) dC<|yJ I<|zb2 I (gT I I I dC) (fA aw I aO I) dC<|SP.gq I (gT I I I dC) (qL (v:=.slice rp c.sides.length rcap) bh I<|cO 0 I I) dC<|yJ I<|zb2 I (gT I I I dC) (iA aI aB I I hb1 oM sL) dC<|zb2 I (gT I I I dC) (fC co I zT3 I hb1) dC<|SP.gq I (gT I I I dC) (aZ (e:=encSide) (o:=0) (u:=vi y.cell) iT3 I hcs.rd hjx I) dC<|zb2 I (gT I I I dC) (fA aw I aO I) dC<|SP.gq I (gT I I I dC) (qL (v:=.slice rp c.sides.length rcap) bh I<|cO 0 I I) dC<|yJ I<|zb2 I (gT I I I dC) (sU I I oM) dC<|zb2 I (gT I I I dC) (iA aI aB I I hb1 oM sL) dC<|zb2 I (gT I I I dC) (fC co I zT3 I hb1) dC<|SP.gq I (gT I I I dC) (aZ (e:=encSide) (o:=0) (u:=vi q.cell) iT3 I hcs.rd hq1 I) dC<|zb2 I (gT I I I dC) (eQ I I) dC<|zb2 I (gT I I I dC) (wT I I) dC<|pU I (wF I I)<|pN<|tN<|iP I (fun heq=>?_) (fun heq=>?_)
       ·exact rZ<|aT I<|rE<|bR<|tR<|tR<|bR<|tR<|dR (s':=s) uR<|za7 (.inl I) results103 I ⟨by unfold cw; rw[zf9 (by simp[hdb]),zf9 (by simp[hcb]),zg1<|hT (by rw[hbd]; exact zf8 heq.symm)],I,I⟩
       ·exact kP<|bN<|tN<|rG<|lM I<|yD I<|lA I<|nL<|ST.again (k+1) sB I I ⟨oM,hF (by rw[hbd]; exact zf7 fun e=>heq e.symm)⟩ oM
      ·have hbd:=tw (i:=k) (x:=y) hsome (by rw[hget]; exact hdm) hk0;refine kP<|tN<|sQ<|bK<|sW I<|lU (fA aw I aO I)<|lK (qL (v:=.slice rp c.sides.length rcap) bh I<|cO 0 I I)<|lM I<|lU (iA aI aB I I hb1 oM sL)<|lU (fC co I zT3 I hb1)<|lK (aZ (e:=encSide) (o:=0) (u:=vi y.cell) iT3 I hcs.rd hjx I)<|lW (SO.call call62 I<|jx E g _ _ tl y.cell hv htl hs) ?_;rintro _ _ _ ⟨rfl,rfl,rfl⟩;rw[hat];refine aT I<|sQ<|dW [] [(0,2),(1,2),(2,2),(3,2),(4,2),(5,2),(6,2),(7,1),(8,2),(9,1),(10,2),(11,2),(12,2),(13,2),(14,2),(15,2),(16,2),(17,2),(18,1),(19,2),(20,2),(21,2),(22,1),(23,2),(24,1),(25,2),(26,2),(27,2),(28,2),(29,1),(30,2),(31,2),(32,2)] ze3 kR<|yM I<|pU I (SU.eq (v':=vb false) (lS I I)<|ze2 vb<|zf7 oM)<|yM I<|yJ I<|yJ I<|zb2 I (gT I I I dC) (iA aF au I I hbv oM sL) dC<|zb2 I (gT I I I dC) (fC aw I zT3 I hbv) dC<|SP.gq I (gT I I I dC) (aZ (e:=encCell) (o:=1) (u:=vi rs[kk].dim) iT3 I hrs.rd hgr I) dC<|zb2 I (gT I I I dC) (fA aw I zT3 I) dC<|SP.gq I (gT I I I dC) (qL (v:=vi c.dim) iT3 I<|cO 0 I I) dC<|zb2 I (gT I I I dC) (sU I I oM) dC<|zb2 I (gT I I I dC) (SU.eq (v':=vb false) (nQ I I)<|ze2 vb<|zf7 (by rw[hyr.2.1]; exact hdm)) dC ?_;exact pU I (wF I I)<|yM I<|yJ I<|zb2 I (gT I I I dC) (SU.eq (v':=vb false) (gR I I)<|ze2 vb<|zf7 hk0) dC<|yJ I<|yG I<|yI I<|yG I<|yG I<|yG I<|yI I<|yG I<|yI I<|yG I<|yG I<|yG I<|yG I<|yI I<|yG I<|zb2 I (gT I I I dC) (wF I I) dC<|pU I (wF I I)<|pN<|tN<|cF I<|kP<|bN<|tN<|rG<|lM I<|yD I<|lA I<|nL<|ST.again (k+1) sB I I ⟨oM,hF hbd⟩ oM
   ·refine xI<|tX<|tX<|bX<|tN<|sQ<|rZ<|aT I<|bK ?_;have hkk:k=c.sides.length:=oM;subst hkk;refine SC.loop (ι:=Nat) (fun k=>[(3,pp b3 0),(5,vi c.sides.length),(8,vi k)]) (fun _=>g)
     (fun _=>pt b3 (.cells #[vi c.id,vi c.dim,.slice rp c.sides.length rcap] 54 (0,0))::s) (fun k=>k≤c.sides.length∧(c.sides.take k).any bF=false) (fun k=>c.sides.length - k) 0
     sB rfl rfl ⟨zf6 _,by simp⟩ ?_
    rintro k ⟨hk2,hns⟩;refine sQ<|sW I<|lM I<|yL I<|tZ<|iP I (fun hlt2=>?_) (fun hlt2=>?_)
    ·have hkl:k<c.sides.length:=oM;have hb1:=hx0 oM;have hjx:c.sides[((k:Nat):Int).toNat]?=some c.sides[k]:=gE hkl;have htk:c.sides.take (k+1)=c.sides.take k++[c.sides[k]]:=tS hkl;have hmemy:c.sides[k]∈c.sides:=gM hkl;generalize c.sides[k]=y at *;refine kP<|tN<|sQ<|bK<|SC.cutB 115 (bF y) ?_ ?_
     ·refine rG<|lU (fA aw I aO I)<|lK (qL (v:=.slice rp c.sides.length rcap) bh I<|cO 0 I I)<|lM I<|lU (iA aI aB I I hb1 oM sL)<|lU (fC co I zT3 I hb1)<|lK (aZ (e:=encSide) (o:=1) (u:=vi y.sign) iT3 I hcs.rd hjx I)<|lU (nQ I I)<|lM I<|sP ?_ ?_
      ·intro h107;exact lY I I I (fA aw I aO I)<|SL.gq (gT I I I dC) (qL (v:=.slice rp c.sides.length rcap) bh I<|cO 0 I I) dC<|yC I<|lY I I I (iA aI aB I I hb1 oM sL)<|lY I I I (fC co I zT3 I hb1)<|SL.gq (gT I I I dC) (aZ (e:=encSide) (o:=1) (u:=vi y.sign) iT3 I hcs.rd hjx I) dC<|lY I I I (nQ I I)<|yP I<|nL<|za9 (by exact ze2 (fun b=>some<|Value.bool b) (sJ h107).symm) mI
      ·intro h107;exact yA I<|yA I<|yA I<|yA I<|yA I<|yA I<|yA I<|yF I<|nL<|za9 (by exact ze2 (fun b=>some<|Value.bool b) (sI h107).symm) mI
     refine iQ I (fun hsg=>?_) (fun hsg=>?_)
     ·refine rZ<|aT I<|rE<|bR<|tR<|tR<|bR<|tR<|dR (s':=s) uR ?_;have hany:c.sides.any bF=true:=zj8.2 ⟨y,hmemy,hsg⟩;exact za7 (.inl I) results103 I ⟨by unfold cw; rw[zf9 (by simp[hdb]),zf9 (by simp[hcb]),zf9 (by simp[hno]),zg1 hany],I,I⟩
     ·exact kP<|bN<|tN<|rG<|lM I<|yD I<|lA I<|nL<|ST.again (k+1) sB I I ⟨oM,by rw[htk,List.any_append,hns]; simp[hsg]⟩ oM
    ·have hkk:c.sides.take k=c.sides:=tL oM;rw[hkk] at hns;by_cases hd1:c.dim=1
     ·have h2:c.sides.length=2:=by
       simp[aY] at hcb;have:=hcb.1.2 hd1;omega
      obtain ⟨a,b,hab,hsum⟩:=zv h2 hns;have hb1:=hx0 oM;refine xI<|tX<|tX<|bX<|tN<|sQ<|sQ<|dW [] [(0,2),(1,1),(2,2),(3,2),(4,2),(5,1),(6,2),(7,2),(8,1),(9,2),(10,1),(11,2),(12,2),(13,1),(14,2),(15,2)] ze3 kR<|pU I (fA aw I zT3 I)<|pK I (qL (v:=vi c.dim) iT3 I<|cO 0 I I)<|pU I (SU.eq (v':=vb true) (eQ I I)<|ze2 vb<|zf8 hd1)<|yM I<|zb2 I (gT I I I dC) (fA aw I aO I) dC<|SP.gq I (gT I I I dC) (qL (v:=.slice rp c.sides.length rcap) bh I<|cO 0 I I) dC<|zb2 I (gT I I I dC) (iA aI aB I I hb1 dC sL) dC<|zb2 I (gT I I I dC) (fC co I zT3 I hb1) dC<|SP.gq I (gT I I I dC) (aZ (e:=encSide) (j:=0) (o:=1) (u:=vi a.sign) (a:=a) iT3 I hcs.rd (by rw[hab]; rfl) rfl) dC ?_;refine zb2 I (gT I I I dC) (fA aw I aO I) dC<|SP.gq I (gT I I I dC) (qL (v:=.slice rp c.sides.length rcap) bh I<|cO 0 I I) dC<|zb2 I (gT I I I dC) (iA aI aB I I hb1 dC sL) dC<|zb2 I (gT I I I dC) (fC co I zT3 I hb1) dC<|SP.gq I (gT I I I dC) (aZ (e:=encSide) (j:=1) (o:=1) (u:=vi b.sign) (a:=b) iT3 I hcs.rd (by rw[hab]; rfl) rfl) dC ?_;refine zb2 I (gT I I I dC) (eQ I I) dC<|pU I (wT I I)<|pN<|tN<|iP I (fun heq=>?_) (fun heq=>?_)
      ·exact rZ<|aT I<|rE<|tR<|dR (s':=s) uR<|za7 (.inl I) results103 I ⟨by unfold cw; rw[zf9 (by simp[hdb]),zf9 (by simp[hcb]),zf9 (by simp[hno]),zf9 (by simp[hns]),zg1 (by rw[hsum]; simp[hd1,heq])],I,I⟩
      ·exact kP<|tN<|rZ<|aT I<|rE<|dR (s':=s) uR<|za7 (.inl I) results103 I ⟨by unfold cw; rw[zf9 (by simp[hdb]),zf9 (by simp[hcb]),zf9 (by simp[hno]),zf9 (by simp[hns]),zf9 (by rw[hsum]; simp[heq])],I,I⟩
     ·exact xI<|tX<|tX<|bX<|tN<|sQ<|sQ<|dW [] [(0,2),(1,1),(2,2),(3,2),(4,2),(5,1),(6,2),(7,2),(8,1),(9,2),(10,1),(11,2),(12,2),(13,1),(14,2),(15,2)] ze3 kR<|pU I (fA aw I zT3 I)<|pK I (qL (v:=vi c.dim) iT3 I<|cO 0 I I)<|pU I (SU.eq (v':=vb false) (eQ I I)<|ze2 vb<|zf7 hd1)<|yM I<|yG I<|yI I<|yG I<|yG I<|yI I<|yG I<|yI I<|yG I<|yG I<|yI I<|yG I<|pU I (wF I I)<|pN<|tN<|cF I<|kP<|tN<|rZ<|aT I<|rE<|dR (s':=s) uR<|za7 (.inl I) results103 I ⟨by unfold cw; rw[zf9 (by simp[hdb]),zf9 (by simp[hcb]),zf9 (by simp[hno]),zf9 (by simp[hns]),zf9 (by simp[hd1])],I,I⟩
abbrev wr (x:Int):Int:=IntKind.i64.wrap x
structure En where
 id:Int
 sum:Int
 many:Int
 fst:Nat
def En.fi (e:En):Int:=e.fst
def En.up (e:En)(p:Int):En:=⟨e.id,wr<|e.sum+p,wr<|e.many+1,e.fst⟩
def kK (i:Nat)(c p:Int):List En→List En
 | []=>[En.up ⟨c,0,0,i⟩ p]
 | e::r=>if e.id=c then e.up p::r else e::kK i c p r
def jE (i:Nat)(c:Int):List En→Nat
 | []=>i
 | e::r=>if e.id=c then e.fst else jE i c r
def ef (m:Nat)(old now:Int)(p:List Int):List Int:=p.mapIdx fun q x=>if q<m∧x=now then old else x
def lz (i:Nat)(sx:Int)(st:List En×List Int)(r:Side):List En×List Int :=
 (kK i r.cell (wr<|sx * r.sign) st.1,ef (i+1) (st.2.getD (jE i r.cell st.1) 0) (st.2.getD i 0) st.2)
def nt (tl:List Cl)(st:List En×List Int)(p:Side×Nat):List En×List Int:=(aV tl p.1).foldl (lz p.2 p.1.sign) (st.1,st.2.set p.2 p.2)
def mo (tl:List Cl)(l:List Side)(n:Nat):List En×List Int:=l.zipIdx.foldl (nt tl) ([],List.replicate n 0)
def iM (tl:List Cl)(c:Cl):Int :=
 if (mo tl c.sides c.sides.length).1.any (fun e=>decide (e.sum≠0)) then 24
 else if (mo tl c.sides c.sides.length).1.any (fun e=>decide (e.many≠2)) then 25
 else if (mo tl c.sides c.sides.length).2.any (fun x=>decide (x≠(mo tl c.sides c.sides.length).2.getD 0 0)) then 25
 else 0
theorem rz {i:Nat}{c p:Int}{e:En}{B:List En}(he:e.id=c):∀ {A:List En},(∀ x∈A,x.id≠c)→kK i c p (A++e::B)=A++e.up p::B∧jE i c (A++e::B)=e.fst
 | [],_=>by simp[kK,jE,he]
 | x::A,h=>by
  have hx:=h x (by simp);have:=rz (i:=i) (p:=p) (B:=B) he (A:=A) (fun y hy=>h y<|by simp[hy]);simp[kK,jE,hx,this.1,this.2]
theorem rv {i:Nat}{c p:Int}:∀ {A:List En},(∀ x∈A,x.id≠c)→kK i c p A=A++[En.up ⟨c,0,0,i⟩ p]∧jE i c A=i
 | [],_=>by simp[kK,jE]
 | x::A,h=>by
  have hx:=h x (by simp);have:=rv (i:=i) (p:=p) (A:=A) (fun y hy=>h y<|by simp[hy]);simp[kK,jE,hx,this.1,this.2]
theorem ll (m:Nat)(old now:Int)(p:List Int):(ef m old now p).length=p.length:=by simp[ef]
theorem uS (old now:Int)(p:List Int):ef 0 old now p=p:=by
 unfold ef;apply List.ext_getElem?;intro q;simp
theorem xx {m:Nat}{old now:Int}{p:List Int}(h:m<p.length):(ef m old now p)[m]?=some p[m]:=by
 simp[ef,h]
theorem uT {m:Nat}{old now:Int}{p:List Int}(h:m<p.length):ef (m+1) old now p=if p[m]=now then (ef m old now p).set m old else ef m old now p:=by
 unfold ef;split
 ·rename_i hm;apply List.ext_getElem?;intro q;rw[List.getElem?_set];by_cases hq:m=q
  ·subst hq;simp[h,hm]
  ·rw[zf9 hq];simp only[List.getElem?_mapIdx];cases p[q]? with
   | none=>rfl
   | some x=>simp; congr 1; simp; intro _; omega
 ·rename_i hm;apply List.ext_getElem?;intro q;simp only[List.getElem?_mapIdx];by_cases hq:m=q
  ·subst hq;simp[h,hm]
  ·cases p[q]? with
   | none=>rfl
   | some x=>simp; congr 1; simp; intro _; omega
theorem wP {i n:Nat}{c p:Int}(hi:i<n):∀ {es:List En},(∀ e∈es,e.fst<n)→∀ e∈kK i c p es,e.fst<n
 | [],_,e,he=>by simp[kK] at he; subst he; exact hi
 | x::r,h,e,he=>by
  unfold kK at he;split at he
  ·rcases zf1.1 he with rfl | he
   ·exact h x (by simp)
   ·exact h e (by simp[he])
  ·rcases zf1.1 he with rfl | he
   ·exact h e (by simp)
   ·exact wP hi (fun y hy=>h y<|by simp[hy]) e he
theorem uO (E:World)(g:PH)(s:Own)(v:Value)(tl:List Cl)(c:Cl)(r:Rc)(hv:ak g v tl)(htl:tl.length<1099511627776)(hs:(tl.map Cl.id).Pairwise (· ≤ ·))(hc:ay g c r)(hl:c.sides.length≤64)(hin:∀ x∈c.sides,(ao tl x.cell).isSome=true)(hsl:∀ x∈c.sides,(aV tl x).length≤64) :
  Ctr Tryz.prog E 104 #[v,rcv r] g s (fun r g' s'=>r=vi (iM tl c)∧g=g'∧s=s'):=by
 obtain ⟨rs,hrs,hall⟩:=hv;have hv:ak g v tl:=⟨rs,hrs,hall⟩;have hrl:=hall.length;obtain ⟨vp,vc,rfl⟩:=hrs.form;obtain ⟨rp,rcap,rfl,hcs⟩:=dY hc;refine zb1 (args:=[.slice vp rs.length vc,.agg #[vi c.id,vi c.dim,.slice rp c.sides.length rcap]]) func104 I ntmps104 (bE I)<|rZ (bW (bO I) fun b3=>?_);refine aT I<|sQ ?_;refine SC.to (g':=g) (s':=pt b3 (.cells #[vi c.id,vi c.dim,.slice rp c.sides.length rcap] 54 (0,0))::s) (fun w hw=>hw) ?_;refine rG<|aT I<|rZ<|aT I<|rZ<|aT I<|rZ<|lU (fA aw I aO I)<|lK (qL (v:=.slice rp c.sides.length rcap) bh I<|cO 0 I I)<|lU (eN aI I)<|lW (mK ae 0 sty22 I I I oM oM) ?_;rintro _ _ _ ⟨b8,rfl,rfl,rfl⟩;refine aT I<|rZ<|lW (bS sty22 I I I (ab trivial) dC) ?_;rintro _ _ _ ⟨b24,rfl,rfl,rfl⟩;refine SL.drop (.cons _<|.refl _)<|SL.emptyRow 3 1 (some ⟨b24,0,none⟩)<|aT I<|sQ<|rZ<|aT I<|bK<|zb5 3 1<|zb5 3 1<|zb5 3 1<|SC.loop (ι:=(Value×Value×Value×Value)×(List En×List Int)×Nat) (fun i=>[(0,.slice vp rs.length vc),(3,pp b3 0),(5,i.1.1),(6,i.1.2.1),(7,i.1.2.2.1),(8,.slice (some ⟨b8,0,none⟩) c.sides.length c.sides.length),(9,i.1.2.2.2),(10,vi (i.2.2:Nat))]) (fun _=>g)
  (fun i=>rowA ae 3 i.1.1 (i.2.1.1.map En.id)::rowA ae 3 i.1.2.1 (i.2.1.1.map En.sum)::rowA ae 3 i.1.2.2.1 (i.2.1.1.map En.many)::rowA ae 3 i.1.2.2.2 (i.2.1.1.map En.fi)::rowA ae 3 (.slice (some ⟨b8,0,none⟩) c.sides.length c.sides.length) (i.2.1.2)::pt b3 (.cells #[vi c.id,vi c.dim,.slice rp c.sides.length rcap] 54 (0,0))::s)
  (fun i=>i.2.2≤c.sides.length∧i.2.1=(c.sides.take i.2.2).zipIdx.foldl (nt tl) ([],List.replicate c.sides.length 0)∧i.2.1.2.length=c.sides.length∧i.2.1.1.length≤64 * i.2.2∧∀ e∈i.2.1.1,e.fst<c.sides.length) (fun i=>c.sides.length - i.2.2)
  ((.slice none 0 0,.slice none 0 0,.slice none 0 0,.slice (some ⟨b24,0,none⟩) 0 0),([],List.replicate c.sides.length 0),0) sB rfl rfl ⟨zf6 _,by simp,by simp,by simp,by simp⟩ ?_
 rintro ⟨⟨v5,v6,v7,v9⟩,⟨es,part⟩,i⟩ ⟨hi,hst,hpl,hel,hef⟩;dsimp only at hi hst hpl hel hef ⊢;refine sQ<|sW I<|lU (fA aw I aO I)<|lK (qL (v:=.slice rp c.sides.length rcap) bh I<|cO 5 I I)<|lU (eN aI I)<|yL I<|tZ<|iP I (fun hlt=>?_) (fun hlt=>?_)
 ·have hil:i<c.sides.length:=oM;have hb1:=hcs.based oM;have hix:c.sides[((i:Nat):Int).toNat]?=some c.sides[i]:=gE hil;have htk:(c.sides.take<|i+1).zipIdx.foldl (nt tl) ([],List.replicate c.sides.length 0)=nt tl ((c.sides.take i).zipIdx.foldl (nt tl) ([],List.replicate c.sides.length 0)) (c.sides[i],i):=by
   rw[tS hil,List.zipIdx_append,zi8];have:(List.take i c.sides).length=i:=by rw[ze4]; omega
   rw[this];simp
  have hxm:=gM hil;have hxin:=hin _ hxm;have hxs:=hsl _ hxm;generalize c.sides[i]=x at *;obtain ⟨yc,hyc⟩:=zh8.1 hxin;have hsx:aV tl x=yc.sides:=by unfold aV; rw[hyc]; rfl
  rw[hsx] at hxs
  rcases qS hs x.cell with ⟨hfn,_⟩ | ⟨yc',kk,hfs,hat,hyk⟩
  ·rw[hfn] at hyc; cases hyc
  have:yc=yc':=by rw[hfs] at hyc; injection hyc with h; exact h.symm
  subst this;have hkk:kk<tl.length:=(zf5.1 hyk).1;have hkr:kk<rs.length:=oM;have hbv:=hrs.based oM;have hyr:=hall.get hyk<|gE hkr;have hgr:rs[((kk:Nat):Int).toNat]?=some rs[kk]:=gE hkr;obtain ⟨yp,ycap,hrk,hys⟩:=dY hyr;rw[hrk] at hgr;have hp1:(part.set i (i:Int)).length=c.sides.length:=by rw[zi3]; exact hpl
  refine kP<|tN<|sQ<|bK<|sW I<|lM I<|lM I<|lU (iA aG zT3 I I I oM sL)<|oZ (sT (a:=(i:Int)) 4 zT3 I I I oM I)<|tZ<|sW I<|lM I<|lU (fA aw I aO I)<|lK (qL (v:=.slice rp c.sides.length rcap) bh I<|cO 5 I I)<|lM I<|lU (iA aI aB I I hb1 oM sL)<|lU (fC co I zT3 I hb1)<|lK (aZ (e:=encSide) (o:=0) (u:=vi x.cell) iT3 I hcs.rd hix I)<|lW (SO.call call62 I<|jx E g _ _ tl x.cell hv htl hs) ?_;rintro _ _ _ ⟨rfl,rfl,rfl⟩;rw[hat];refine lU (iA aF au I I hbv oM sL) (lK (eA (e:=encCell) bQ au I hrs.rd hgr)<|bW (aL zl3) fun b11=>?_);refine oZ (sK 0 au I I I I I sB)<|tZ<|rZ<|aT I<|bK ?_;refine SC.to (g':=g) (s':=pt b11 (.cells #[vi yc.id,vi yc.dim,.slice yp yc.sides.length ycap] 54 (0,0))::rowA ae 3 v5 (es.map En.id)::rowA ae 3 v6 (es.map En.sum)::rowA ae 3 v7 (es.map En.many)::rowA ae 3 v9 (es.map En.fi)::rowA ae 3 (.slice (some ⟨b8,0,none⟩) c.sides.length c.sides.length) (part.set i (i:Int))::pt b3 (.cells #[vi c.id,vi c.dim,.slice rp c.sides.length rcap] 54 (0,0))::s) (fun w hw=>hw) ?_;refine SC.loop (ι:=(Value×Value×Value×Value)×(List En×List Int)×Nat) (fun q=>[(0,.slice vp rs.length vc),(3,pp b3 0),(5,q.1.1),(6,q.1.2.1),(7,q.1.2.2.1),(8,.slice (some ⟨b8,0,none⟩) c.sides.length c.sides.length),(9,q.1.2.2.2),(10,vi (i:Nat)),(11,pp b11 0),(12,vi (q.2.2:Nat))]) (fun _=>g)
   (fun q=>pt b11 (.cells #[vi yc.id,vi yc.dim,.slice yp yc.sides.length ycap] 54 (0,0))::rowA ae 3 q.1.1 (q.2.1.1.map En.id)::rowA ae 3 q.1.2.1 (q.2.1.1.map En.sum)::rowA ae 3 q.1.2.2.1 (q.2.1.1.map En.many)::rowA ae 3 q.1.2.2.2 (q.2.1.1.map En.fi)::rowA ae 3 (.slice (some ⟨b8,0,none⟩) c.sides.length c.sides.length) (q.2.1.2)::pt b3 (.cells #[vi c.id,vi c.dim,.slice rp c.sides.length rcap] 54 (0,0))::s)
   (fun q=>q.2.2≤yc.sides.length∧q.2.1=(yc.sides.take q.2.2).foldl (lz i x.sign) (es,part.set i (i:Int))∧q.2.1.2.length=c.sides.length∧q.2.1.1.length≤64 * i+q.2.2∧∀ e∈q.2.1.1,e.fst<c.sides.length) (fun q=>yc.sides.length - q.2.2)
   ((v5,v6,v7,v9),(es,part.set i (i:Int)),0) sB rfl rfl ⟨zf6 _,by simp,hp1,lN,hef⟩ ?_
  rintro ⟨⟨w5,w6,w7,w9⟩,⟨fs,pa⟩,j⟩ ⟨hj,hst2,hpl2,hel2,hef2⟩;dsimp only at hj hst2 hpl2 hel2 hef2 ⊢;refine zd4 fun ⟨w0,hw0⟩=>?_;obtain ⟨p5,c5,rfl⟩:=aj (i:=1) hw0 rfl;obtain ⟨p6,c6,rfl⟩:=aj (i:=2) hw0 rfl;obtain ⟨p7,c7,rfl⟩:=aj (i:=3) hw0 rfl;obtain ⟨p9,c9,rfl⟩:=aj (i:=4) hw0 rfl;have hb5:0<fs.length→based (.slice p5 (fs.map En.id).length c5)=true:=fun h=>by obtain ⟨b0,c0,he⟩:=aM (i:=1) hw0 rfl (by simpa using h); rw[he]; rfl
  clear hw0 w0;refine sQ<|sW I<|lU (fA aw I aO I)<|lK (qL (v:=.slice yp yc.sides.length ycap) bh I<|cO 0 I I)<|lU (eN aI I)<|yL I<|tZ<|iP I (fun hlt2=>?_) (fun hlt2=>?_)
  ·have hjl:j<yc.sides.length:=oM;have hb2:=hys.based oM;have hjx:yc.sides[((j:Nat):Int).toNat]?=some yc.sides[j]:=gE hjl;have htk2:(yc.sides.take<|j+1).foldl (lz i x.sign) (es,part.set i (i:Int))=lz i x.sign ((yc.sides.take j).foldl (lz i x.sign) (es,part.set i (i:Int))) yc.sides[j]:=by
    rw[tS hjl,zi8]; rfl
   rw[← hst2] at htk2;generalize yc.sides[j]=z at *;have hml5:(fs.map En.id).length=fs.length:=by simp
   refine kP<|tN<|sQ<|bK<|rZ<|aT I<|SC.cut (ι:=Nat) (fun k=>[(0,.slice vp rs.length vc),(3,pp b3 0),(5,.slice p5 (fs.map En.id).length c5),(6,.slice p6 (fs.map En.sum).length c6),(7,.slice p7 (fs.map En.many).length c7),(8,.slice (some ⟨b8,0,none⟩) c.sides.length c.sides.length),(9,.slice p9 (fs.map En.fi).length c9),(10,vi (i:Nat)),(11,pp b11 0),(12,vi (j:Nat)),(13,vi (k:Nat))]) (fun _=>g)
    (fun _=>pt b11 (.cells #[vi yc.id,vi yc.dim,.slice yp yc.sides.length ycap] 54 (0,0))::rowA ae 3 (.slice p5 (fs.map En.id).length c5) (fs.map En.id)::rowA ae 3 (.slice p6 (fs.map En.sum).length c6) (fs.map En.sum)::rowA ae 3 (.slice p7 (fs.map En.many).length c7) (fs.map En.many)::rowA ae 3 (.slice p9 (fs.map En.fi).length c9) (fs.map En.fi)::rowA ae 3 (.slice (some ⟨b8,0,none⟩) c.sides.length c.sides.length) (pa)::pt b3 (.cells #[vi c.id,vi c.dim,.slice rp c.sides.length rcap] 54 (0,0))::s)
    (fun k=>k≤fs.length∧(∀ e∈fs.take k,e.id≠z.cell)∧∀ h:k<fs.length,fs[k].id=z.cell) ?_ ?_
   ·refine bK<|SC.loop (ι:=Nat) (fun k=>[(0,.slice vp rs.length vc),(3,pp b3 0),(5,.slice p5 (fs.map En.id).length c5),(6,.slice p6 (fs.map En.sum).length c6),(7,.slice p7 (fs.map En.many).length c7),(8,.slice (some ⟨b8,0,none⟩) c.sides.length c.sides.length),(9,.slice p9 (fs.map En.fi).length c9),(10,vi (i:Nat)),(11,pp b11 0),(12,vi (j:Nat)),(13,vi (k:Nat))]) (fun _=>g)
     (fun _=>pt b11 (.cells #[vi yc.id,vi yc.dim,.slice yp yc.sides.length ycap] 54 (0,0))::rowA ae 3 (.slice p5 (fs.map En.id).length c5) (fs.map En.id)::rowA ae 3 (.slice p6 (fs.map En.sum).length c6) (fs.map En.sum)::rowA ae 3 (.slice p7 (fs.map En.many).length c7) (fs.map En.many)::rowA ae 3 (.slice p9 (fs.map En.fi).length c9) (fs.map En.fi)::rowA ae 3 (.slice (some ⟨b8,0,none⟩) c.sides.length c.sides.length) (pa)::pt b3 (.cells #[vi c.id,vi c.dim,.slice rp c.sides.length rcap] 54 (0,0))::s)
     (fun k=>k≤fs.length∧∀ e∈fs.take k,e.id≠z.cell) (fun k=>fs.length - k) 0 sB rfl rfl ⟨zf6 _,by simp⟩ ?_
    rintro k ⟨hk,hne⟩;by_cases hkl:k<fs.length
    ·have hin2:((k:Nat):Int)<(((fs.map En.id).length:Nat):Int):=oM;have hg5:(fs.map En.id)[((k:Nat):Int).toNat]?=some fs[k].id:=by simp[hkl]
     have hb5':=hb5 oM;refine sQ<|sQ<|dW [] [(0,2),(1,2),(2,2),(3,2),(4,2),(5,2),(6,2),(7,2),(8,1),(9,2),(10,1),(11,2),(12,2),(13,2),(14,1),(15,2),(16,2)] ze3 kR<|yM I<|yM I<|pU I (eN aG I)<|pU I (SU.eq (v':=vb true) (lS I I)<|ze2 vb<|zf8 hin2)<|yM I<|yJ I<|yJ I<|zb2 I (gT I I I dC) (iA aG zT3 I I hb5' oM sL) dC<|SP.gq I (gT I I I dC) (eB iT3 I (zb6 1 I) hg5 I) dC<|zb2 I (gT I I I dC) (fA aw I aO I) dC<|SP.gq I (gT I I I dC) (qL (v:=.slice yp yc.sides.length ycap) bh I<|cO 0 I I) dC<|yJ I<|zb2 I (gT I I I dC) (iA aI aB I I hb2 oM sL) dC<|zb2 I (gT I I I dC) (fC co I zT3 I hb2) dC<|SP.gq I (gT I I I dC) (aZ (e:=encSide) (o:=0) (u:=vi z.cell) iT3 I hys.rd hjx I) dC<|zb2 I (gT I I I dC) (nQ I I) dC<|pU I (wT I I)<|pN<|tN<|iP I (fun hc2=>?_) (fun hc2=>?_)
     ·refine kP (tN (bK (rG (lM I (yD I (lA I (nL (bN ?_))))))));exact ST.again (k+1) sB I I ⟨oM,by
       rw[tS hkl];intro e he
       rcases zf3.1 he with h | h
       ·exact hne e h
       ·simp at h; subst h; exact hc2⟩ oM
     ·exact xI<|tX<|tX<|bX<|za8 k sB I I ⟨hk,hne,fun _=>zg9 hc2⟩
    ·have hin2:¬ ((k:Nat):Int)<(((fs.map En.id).length:Nat):Int):=oM;exact sQ<|sQ<|dW [] [(0,2),(1,2),(2,2),(3,2),(4,2),(5,2),(6,2),(7,2),(8,1),(9,2),(10,1),(11,2),(12,2),(13,2),(14,1),(15,2),(16,2)] ze3 kR<|yM I<|yM I<|pU I (eN aG I)<|pU I (SU.eq (v':=vb false) (lS I I)<|ze2 vb<|zf7 hin2)<|yM I<|yG I<|yG I<|yG I<|yI I<|yG I<|yI I<|yG I<|yG I<|yG I<|yI I<|yG I<|pU I (wF I I)<|pN<|tN<|cF I<|xI<|tX<|tX<|bX<|za8 k sB I I ⟨hk,hne,fun h=>absurd h hkl⟩
   ·rintro k ⟨hk,hne,heq⟩;refine SC.cut (ι:=(Value×Value×Value×Value)×List En×En×List En) (fun q=>[(0,.slice vp rs.length vc),(3,pp b3 0),(5,q.1.1),(6,q.1.2.1),(7,q.1.2.2.1),(8,.slice (some ⟨b8,0,none⟩) c.sides.length c.sides.length),(9,q.1.2.2.2),(10,vi (i:Nat)),(11,pp b11 0),(12,vi (j:Nat)),(13,vi (q.2.1.length:Nat))]) (fun _=>g)
     (fun q=>pt b11 (.cells #[vi yc.id,vi yc.dim,.slice yp yc.sides.length ycap] 54 (0,0))::rowA ae 3 q.1.1 ((q.2.1++q.2.2.1::q.2.2.2).map En.id)::rowA ae 3 q.1.2.1 ((q.2.1++q.2.2.1::q.2.2.2).map En.sum)::rowA ae 3 q.1.2.2.1 ((q.2.1++q.2.2.1::q.2.2.2).map En.many)::rowA ae 3 q.1.2.2.2 ((q.2.1++q.2.2.1::q.2.2.2).map En.fi)::rowA ae 3 (.slice (some ⟨b8,0,none⟩) c.sides.length c.sides.length) (pa)::pt b3 (.cells #[vi c.id,vi c.dim,.slice rp c.sides.length rcap] 54 (0,0))::s)
     (fun q=>(∀ p,kK i z.cell p fs=q.2.1++q.2.2.1.up p::q.2.2.2)∧jE i z.cell fs=q.2.2.1.fst∧q.2.2.1.fst<c.sides.length∧q.2.1.length+1+q.2.2.2.length≤fs.length+1) ?_ ?_
    ·refine sW I<|lM I<|lU (eN aG I)<|yE I<|tZ<|iP I (fun hnew=>?_) (fun hnew=>?_)
     ·have hkf:k=fs.length:=oM;subst hkf;rw[List.take_length] at hne;refine sW I<|lU (fA aw I aO I)<|lK (qL (v:=.slice yp yc.sides.length ycap) bh I<|cO 0 I I)<|lM I<|lU (iA aI aB I I hb2 oM sL)<|lU (fC co I zT3 I hb2)<|lK (aZ (e:=encSide) (o:=0) (u:=vi z.cell) iT3 I hys.rd hjx I)<|lW (bS sty22 I I I (ab sB) dC) ?_;rintro _ _ _ ⟨b84,rfl,rfl,rfl⟩;refine lW (aP (e:=ae) 1 z.cell sty22 I I I I I oM oM) ?_;rintro u5 _ _ ⟨rfl,rfl⟩;refine aT I<|sW I<|lW (bS sty22 I I I (ab sB) dC) ?_;rintro _ _ _ ⟨b87,rfl,rfl,rfl⟩;refine lW (aP (e:=ae) 2 0 sty22 I I I I I (by simp; omega) (by simp; omega)) ?_;rintro u6 _ _ ⟨rfl,rfl⟩;refine aT I<|sW I<|lW (bS sty22 I I I (ab sB) dC) ?_;rintro _ _ _ ⟨b90,rfl,rfl,rfl⟩;refine lW (aP (e:=ae) 3 0 sty22 I I I I I (by simp; omega) (by simp; omega)) ?_;rintro u7 _ _ ⟨rfl,rfl⟩;refine aT I<|rG<|lM I<|lM I<|lW (bS sty22 I I I (ab sB) dC) ?_;rintro _ _ _ ⟨b94,rfl,rfl,rfl⟩;refine lW (aP (e:=ae) 4 ((i:Nat):Int) sty22 I I I I I (by simp; omega) (by simp; omega)) ?_;rintro u9 _ _ ⟨rfl,rfl⟩;refine lA I<|nL ?_;refine ST.to (fun w hw=>?_) (g':=g) (s':=pt b11 (.cells #[vi yc.id,vi yc.dim,.slice yp yc.sides.length ycap] 54 (0,0))::rowA ae 3 u5 ((fs++(⟨z.cell,0,0,i⟩:En)::[]).map En.id)::rowA ae 3 u6 ((fs++(⟨z.cell,0,0,i⟩:En)::[]).map En.sum)::rowA ae 3 u7 ((fs++(⟨z.cell,0,0,i⟩:En)::[]).map En.many)::rowA ae 3 u9 ((fs++(⟨z.cell,0,0,i⟩:En)::[]).map En.fi)::rowA ae 3 (.slice (some ⟨b8,0,none⟩) c.sides.length c.sides.length) (pa)::pt b3 (.cells #[vi c.id,vi c.dim,.slice rp c.sides.length rcap] 54 (0,0))::s) ?_
      ·simp only[zg5,zg4,List.map_nil]; exact hw
      exact za8 ((u5,u6,u7,u9),fs,⟨z.cell,0,0,i⟩,[]) sB I I ⟨fun p=>(rv hne).1,(rv (p:=0) hne).2,hil,by simp⟩
     ·have hkl:k<fs.length:=oM;have hsp:fs=fs.take k++fs[k]::fs.drop (k+1):=by rw[← zg6 hkl,zj2]
      have hkt:(fs.take k).length=k:=by rw[ze4]; omega
      refine kP<|za8 ((_,_,_,_),fs.take k,fs[k],fs.drop<|k+1) ⟨I,I,I,I,I,I,I,I,I,I,aU (by dsimp only; omega),trivial⟩ I (by dsimp only; rw[← hsp]) ⟨fun p=>?_,?_,hef2 _<|gM hkl,by rw[hkt,ze9]; omega⟩
      ·conv=>lhs; rw[hsp]
       exact (rz (heq hkl) hne).1
      ·conv=>lhs; rw[hsp]
       exact (rz (p:=0) (heq hkl) hne).2
    ·rintro ⟨⟨u5,u6,u7,u9⟩,A,e,B⟩ ⟨hbump,hfst,hfl,hlen⟩;dsimp only at hbump hfst hfl hlen ⊢;refine zd4 fun ⟨w0,hw0⟩=>?_;obtain ⟨q6,d6,rfl⟩:=aj (i:=2) hw0 rfl;obtain ⟨q7,d7,rfl⟩:=aj (i:=3) hw0 rfl;obtain ⟨q9,d9,rfl⟩:=aj (i:=4) hw0 rfl;have hb6:based (.slice q6 ((A++e::B).map En.sum).length d6)=true:=by obtain ⟨b0,c0,he⟩:=aM (i:=2) hw0 rfl (by simp; omega); rw[he]; rfl
     have hb7:based (.slice q7 ((A++e::B).map En.many).length d7)=true:=by obtain ⟨b0,c0,he⟩:=aM (i:=3) hw0 rfl (by simp; omega); rw[he]; rfl
     have hb9:based (.slice q9 ((A++e::B).map En.fi).length d9)=true:=by obtain ⟨b0,c0,he⟩:=aM (i:=4) hw0 rfl (by simp; omega); rw[he]; rfl
     clear hw0 w0;have hl6:((A++e::B).map En.sum).length=A.length+1+B.length:=by simp; omega
     have hl7:((A++e::B).map En.many).length=A.length+1+B.length:=by simp; omega
     have hl9:((A++e::B).map En.fi).length=A.length+1+B.length:=by simp; omega
     have g6:((A++e::B).map En.sum)[((A.length:Nat):Int).toNat]?=some e.sum:=by rw[zg5,zg4]; exact bw (by simp)
     have g7:((A++e::B).map En.many)[((A.length:Nat):Int).toNat]?=some e.many:=by rw[zg5,zg4]; exact bw (by simp)
     have g9:((A++e::B).map En.fi)[((A.length:Nat):Int).toNat]?=some ((e.fst:Nat):Int):=by rw[zg5,zg4]; exact bw (by simp)
     have gp1:pa[((e.fst:Nat):Int).toNat]?=some (pa.getD e.fst 0):=by
      have h:e.fst<pa.length:=oM;rw[show ((e.fst:Nat):Int).toNat=e.fst by omega,gE h,zh1,gE h]; rfl
     have gp2:pa[((i:Nat):Int).toNat]?=some (pa.getD i 0):=by
      have h:i<pa.length:=oM;rw[show ((i:Nat):Int).toNat=i by omega,gE h,zh1,gE h]; rfl
     obtain ⟨wp,hwp⟩:∃ wp,wp=wr (x.sign * z.sign):=⟨_,rfl⟩;refine sQ<|dW [20,21] [(0,2),(1,2),(2,2),(3,2),(4,2),(5,1),(6,2),(7,1),(8,2),(9,2),(10,2),(11,1),(12,2),(13,1),(14,2),(15,2),(16,2),(17,1),(18,2),(19,2),(20,0),(21,0)] ze3 kR<|yM I<|yM I<|yM I<|yM I<|pU I (iA aG zT3 I I hb6 oM sL)<|pK I (eB iT3 I (zb6 2 I) g6 I)<|pU I (fA aw I aO I)<|pK I (qL (v:=.slice rp c.sides.length rcap) bh I<|cO 6 I I)<|yM I<|pU I (iA aI aB I I hb1 oM sL)<|pU I (fC co I zT3 I hb1)<|pK I (aZ (e:=encSide) (o:=1) (u:=vi x.sign) iT3 I hcs.rd hix I)<|pU I (fA aw I aO I)<|pK I (qL (v:=.slice yp yc.sides.length ycap) bh I<|cO 0 I I)<|yM I<|pU I (iA aI aB I I hb2 oM sL)<|pU I (fC co I zT3 I hb2)<|pK I (aZ (e:=encSide) (o:=1) (u:=vi z.sign) iT3 I hys.rd hjx I)<|pU I (SU.eq (v':=vi wp) (SU.mulW I I)<|by rw[hwp]) ?_;refine pU I (SU.addW I I)<|oU I (iA aG zT3 I I hb6 oM sL) dC (.inl dC)<|SP.on I (sT (a:=wr<|e.sum+wp) 2 zT3 I I I oM I) (.inl dC) ?_;rintro _ _ _ ⟨rfl,rfl⟩;refine pN<|tN<|sW I<|lM I<|lU (iA aG zT3 I I hb7 oM sL)<|lK (eB iT3 I (zb6 3 I) g7 I)<|lU (SU.addW I I)<|lU (iA aG zT3 I I hb7 oM sL)<|oZ (sT (a:=wr<|e.many+1) 3 zT3 I I I oM I)<|tZ<|sW I<|lM I<|lM I<|lU (iA aG zT3 I I hb9 oM sL)<|lK (eB iT3 I (zb6 4 I) g9 I)<|lU (iA aG zT3 I I I oM sL)<|lK (eB iT3 I (zb6 5 I) gp1 I)<|aT I<|sW I<|lM I<|lU (iA aG zT3 I I I oM sL) ?_;refine lK (eB iT3 I (zb6 5 I) gp2 I)<|aT I<|rZ<|aT I<|bK ?_;have hm6:((A++e::B).map En.sum).set ((A.length:Nat):Int).toNat (wr<|e.sum+wp)=(A++e.up wp::B).map En.sum:=by rw[zg5,zg4,dv (by simp)]; simp[En.up]
     have hm7:((A++e::B).map En.many).set ((A.length:Nat):Int).toNat (wr<|e.many+1)=(A++e.up wp::B).map En.many:=by rw[zg5,zg4,dv (by simp)]; simp[En.up]
     have hm5:(A++e::B).map En.id=(A++e.up wp::B).map En.id:=by simp[En.up]
     have hm9:((A++e::B).map En.fi)=(A++e.up wp::B).map En.fi:=by simp[En.up,En.fi]
     generalize hold:pa.getD e.fst 0=old at *;generalize hnow:pa.getD i 0=now at *;refine SC.to (fun w hw=>?_) (g':=g) (s':=pt b11 (.cells #[vi yc.id,vi yc.dim,.slice yp yc.sides.length ycap] 54 (0,0))::rowA ae 3 u5 ((A++e.up wp::B).map En.id)::rowA ae 3 (.slice q6 ((A++e::B).map En.sum).length d6) ((A++e.up wp::B).map En.sum)::rowA ae 3 (.slice q7 ((A++e::B).map En.many).length d7) ((A++e.up wp::B).map En.many)::rowA ae 3 (.slice q9 ((A++e::B).map En.fi).length d9) ((A++e.up wp::B).map En.fi)::rowA ae 3 (.slice (some ⟨b8,0,none⟩) c.sides.length c.sides.length) (ef 0 old now pa)::pt b3 (.cells #[vi c.id,vi c.dim,.slice rp c.sides.length rcap] 54 (0,0))::s) ?_
     ·rw[← hm6,← hm7,← hm5,← hm9,uS]; exact hw
     refine SC.loop (ι:=Nat) (fun m=>[(0,.slice vp rs.length vc),(3,pp b3 0),(5,u5),(6,.slice q6 ((A++e::B).map En.sum).length d6),(7,.slice q7 ((A++e::B).map En.many).length d7),(8,.slice (some ⟨b8,0,none⟩) c.sides.length c.sides.length),(9,.slice q9 ((A++e::B).map En.fi).length d9),(10,vi (i:Nat)),(11,pp b11 0),(12,vi (j:Nat)),(14,vi old),(15,vi now),(16,vi (m:Nat))]) (fun _=>g)
      (fun m=>pt b11 (.cells #[vi yc.id,vi yc.dim,.slice yp yc.sides.length ycap] 54 (0,0))::rowA ae 3 u5 ((A++e.up wp::B).map En.id)::rowA ae 3 (.slice q6 ((A++e::B).map En.sum).length d6) ((A++e.up wp::B).map En.sum)::rowA ae 3 (.slice q7 ((A++e::B).map En.many).length d7) ((A++e.up wp::B).map En.many)::rowA ae 3 (.slice q9 ((A++e::B).map En.fi).length d9) ((A++e.up wp::B).map En.fi)::rowA ae 3 (.slice (some ⟨b8,0,none⟩) c.sides.length c.sides.length) (ef m old now pa)::pt b3 (.cells #[vi c.id,vi c.dim,.slice rp c.sides.length rcap] 54 (0,0))::s)
      (fun m=>m≤i+1) (fun m=>i+1 - m) 0 sB rfl rfl (zf6 _) ?_
     rintro m hm;have hrel:=ll m old now pa;refine sQ<|sW I<|lM I<|lU (SU.leq I I)<|tZ<|iP I (fun hlt3=>?_) (fun hlt3=>?_)
     ·have hmp:m<pa.length:=oM;have gm:(ef m old now pa)[((m:Nat):Int).toNat]?=some pa[m]:=xx hmp;have hsuc:=uT (old:=old) (now:=now) hmp;refine kP<|tN<|sQ<|bK<|sW I<|lM I<|lU (iA aG zT3 I I I oM sL)<|lK (eB iT3 I (zb6 5 I) gm I)<|lM I<|yE I<|tZ<|iP I (fun hcm=>?_) (fun hcm=>?_)
      ·refine rG<|lM I<|lM I<|lM I<|lU (iA aG zT3 I I I oM sL)<|oZ (sT (a:=old) 5 zT3 I I I (by rw[hrel]; omega) I) ?_;refine nL<|bN<|tN<|rG<|lM I<|yD I<|lA I<|nL ?_;refine ST.to (fun w hw=>?_) (g':=g) (s':=pt b11 (.cells #[vi yc.id,vi yc.dim,.slice yp yc.sides.length ycap] 54 (0,0))::rowA ae 3 u5 ((A++e.up wp::B).map En.id)::rowA ae 3 (.slice q6 ((A++e::B).map En.sum).length d6) ((A++e.up wp::B).map En.sum)::rowA ae 3 (.slice q7 ((A++e::B).map En.many).length d7) ((A++e.up wp::B).map En.many)::rowA ae 3 (.slice q9 ((A++e::B).map En.fi).length d9) ((A++e.up wp::B).map En.fi)::rowA ae 3 (.slice (some ⟨b8,0,none⟩) c.sides.length c.sides.length) (ef (m+1) old now pa)::pt b3 (.cells #[vi c.id,vi c.dim,.slice rp c.sides.length rcap] 54 (0,0))::s) ?_
       ·rw[hsuc,zg1 hcm]; exact hw
       exact ST.again (m+1) sB I I oM oM
      ·refine kP<|bN<|tN<|rG<|lM I<|yD I<|lA I<|nL ?_;refine ST.to (fun w hw=>?_) (g':=g) (s':=pt b11 (.cells #[vi yc.id,vi yc.dim,.slice yp yc.sides.length ycap] 54 (0,0))::rowA ae 3 u5 ((A++e.up wp::B).map En.id)::rowA ae 3 (.slice q6 ((A++e::B).map En.sum).length d6) ((A++e.up wp::B).map En.sum)::rowA ae 3 (.slice q7 ((A++e::B).map En.many).length d7) ((A++e.up wp::B).map En.many)::rowA ae 3 (.slice q9 ((A++e::B).map En.fi).length d9) ((A++e.up wp::B).map En.fi)::rowA ae 3 (.slice (some ⟨b8,0,none⟩) c.sides.length c.sides.length) (ef (m+1) old now pa)::pt b3 (.cells #[vi c.id,vi c.dim,.slice rp c.sides.length rcap] 54 (0,0))::s) ?_
       ·rw[hsuc,zf9 hcm]; exact hw
       exact ST.again (m+1) sB I I oM oM
     ·have hmm:m=i+1:=oM;subst hmm;refine xI<|tX<|tX<|bX<|bN<|tN<|rG<|lM I<|yD I<|lA I<|nL ?_;have hnext:lz i x.sign (fs,pa) z=(A++e.up wp::B,ef (i+1) old now pa):=by
       unfold lz;dsimp only;rw[hfst,hold,hnow,hwp,hbump]
      refine ST.again ((u5,_,_,_),(A++e.up wp::B,ef (i+1) old now pa),j+1) sB I I ⟨lN,by dsimp only; rw[htk2,hnext],by dsimp only; rw[hrel]; exact hpl2,lN,fun q hq=>?_⟩ lN;have h9:=wP (c:=z.cell) (p:=wp) hil hef2 q (by rw[hbump]; exact hq);exact h9
  ·have hjj:yc.sides.take j=yc.sides:=tL oM;rw[hjj] at hst2;have hnext:nt tl (es,part) (x,i)=(fs,pa):=by unfold nt; rw[hsx]; exact hst2.symm
   exact xI<|tX<|tX<|bX<|bN<|tN<|rG<|lM I<|yD I<|lA I<|nL<|dR (s':=rowA ae 3 (.slice p5 (fs.map En.id).length c5) (fs.map En.id)::rowA ae 3 (.slice p6 (fs.map En.sum).length c6) (fs.map En.sum)::rowA ae 3 (.slice p7 (fs.map En.many).length c7) (fs.map En.many)::rowA ae 3 (.slice p9 (fs.map En.fi).length c9) (fs.map En.fi)::rowA ae 3 (.slice (some ⟨b8,0,none⟩) c.sides.length c.sides.length) (pa)::pt b3 (.cells #[vi c.id,vi c.dim,.slice rp c.sides.length rcap] 54 (0,0))::s) (.cons _<|.refl _)<|ST.again ((_,_,_,_),(fs,pa),i+1) sB I I ⟨lN,by dsimp only; rw[htk,← hst,hnext],hpl2,lN,hef2⟩ lN
 ·have hii:c.sides.take i=c.sides:=tL oM;rw[hii] at hst;have hfin:mo tl c.sides c.sides.length=(es,part):=hst.symm;refine zd4 fun ⟨w0,hw0⟩=>?_;obtain ⟨p6,c6,rfl⟩:=aj (i:=1) hw0 rfl;obtain ⟨p7,c7,rfl⟩:=aj (i:=2) hw0 rfl;have hb6:0<es.length→based (.slice p6 (es.map En.sum).length c6)=true:=fun h=>by obtain ⟨b0,c0,he⟩:=aM (i:=1) hw0 rfl (by simpa using h); rw[he]; rfl
  have hb7:0<es.length→based (.slice p7 (es.map En.many).length c7)=true:=fun h=>by obtain ⟨b0,c0,he⟩:=aM (i:=2) hw0 rfl (by simpa using h); rw[he]; rfl
  clear hw0 w0;have hl6:(es.map En.sum).length=es.length:=by simp
  have hl7:(es.map En.many).length=es.length:=by simp
  refine xI<|tX<|tX<|bX<|tN<|sQ<|rZ<|aT I<|bK<|SC.loop (ι:=Nat) (fun k=>[(6,.slice p6 (es.map En.sum).length c6),(7,.slice p7 (es.map En.many).length c7),(8,.slice (some ⟨b8,0,none⟩) c.sides.length c.sides.length),(17,vi (k:Nat))]) (fun _=>g)
   (fun _=>rowA ae 3 v5 (es.map En.id)::rowA ae 3 (.slice p6 (es.map En.sum).length c6) (es.map En.sum)::rowA ae 3 (.slice p7 (es.map En.many).length c7) (es.map En.many)::rowA ae 3 v9 (es.map En.fi)::rowA ae 3 (.slice (some ⟨b8,0,none⟩) c.sides.length c.sides.length) (part)::pt b3 (.cells #[vi c.id,vi c.dim,.slice rp c.sides.length rcap] 54 (0,0))::s)
   (fun k=>k≤es.length∧(es.take k).any (fun e=>decide (e.sum≠0))=false) (fun k=>es.length - k) 0 sB rfl rfl ⟨zf6 _,by simp⟩ ?_
  rintro k ⟨hk,hno⟩;refine sQ<|sW I<|lM I<|lU (eN aG I)<|yL I<|tZ<|iP I (fun hltA=>?_) (fun hltA=>?_)
  ·have hkl:k<es.length:=oM;have gk:(es.map En.sum)[((k:Nat):Int).toNat]?=some es[k].sum:=by simp[hkl]
   refine kP<|tN<|sQ<|bK<|sW I<|lM I<|lU (iA aG zT3 I I (hb6 oM) oM sL)<|lK (eB iT3 I (zb6 1 I) gk I)<|lU (nQ I I)<|tZ<|iP I (fun hz=>?_) (fun hz=>?_)
   ·refine rZ<|aT I<|rE<|bR<|tR<|tR<|bR<|tR<|dR (s':=s) (by repeat (first | exact zc3 _ | refine List.Sublist.cons _ ?_)) ?_;exact za7 (.inl I) results104 I ⟨by unfold iM; rw[hfin,zg1<|zj8.2 ⟨es[k],gM hkl,by simpa using hz⟩],I,I⟩
   ·exact kP<|bN<|tN<|rG<|lM I<|yD I<|lA I<|nL<|ST.again (k+1) sB I I ⟨oM,by rw[tS hkl,List.any_append,hno]; simpa using hz⟩ oM
  ·have hkk:es.take k=es:=tL oM;rw[hkk] at hno;refine xI<|tX<|tX<|bX<|tN<|sQ<|rZ<|aT I<|bK<|SC.loop (ι:=Nat) (fun k=>[(7,.slice p7 (es.map En.many).length c7),(8,.slice (some ⟨b8,0,none⟩) c.sides.length c.sides.length),(18,vi (k:Nat))]) (fun _=>g)
    (fun _=>rowA ae 3 v5 (es.map En.id)::rowA ae 3 (.slice p6 (es.map En.sum).length c6) (es.map En.sum)::rowA ae 3 (.slice p7 (es.map En.many).length c7) (es.map En.many)::rowA ae 3 v9 (es.map En.fi)::rowA ae 3 (.slice (some ⟨b8,0,none⟩) c.sides.length c.sides.length) (part)::pt b3 (.cells #[vi c.id,vi c.dim,.slice rp c.sides.length rcap] 54 (0,0))::s)
    (fun k=>k≤es.length∧(es.take k).any (fun e=>decide (e.many≠2))=false) (fun k=>es.length - k) 0 sB rfl rfl ⟨zf6 _,by simp⟩ ?_
   rintro k2 ⟨hk2,hno2⟩;refine sQ<|sW I<|lM I<|lU (eN aG I)<|yL I<|tZ<|iP I (fun hltB=>?_) (fun hltB=>?_)
   ·have hkl:k2<es.length:=oM;have gk:(es.map En.many)[((k2:Nat):Int).toNat]?=some es[k2].many:=by simp[hkl]
    refine kP<|tN<|sQ<|bK<|sW I<|lM I<|lU (iA aG zT3 I I (hb7 oM) oM sL)<|lK (eB iT3 I (zb6 2 I) gk I)<|lU (nQ I I)<|tZ<|iP I (fun hz=>?_) (fun hz=>?_)
    ·refine rZ<|aT I<|rE<|bR<|tR<|tR<|bR<|tR<|dR (s':=s) (by repeat (first | exact zc3 _ | refine List.Sublist.cons _ ?_)) ?_;exact za7 (.inl I) results104 I ⟨by unfold iM; rw[hfin,zf9 (by rw[hno]; simp),zg1<|zj8.2 ⟨es[k2],gM hkl,by simpa using hz⟩],I,I⟩
    ·exact kP<|bN<|tN<|rG<|lM I<|yD I<|lA I<|nL<|ST.again (k2+1) sB I I ⟨oM,by rw[tS hkl,List.any_append,hno2]; simpa using hz⟩ oM
   ·have hkk2:es.take k2=es:=tL oM;rw[hkk2] at hno2;refine xI<|tX<|tX<|bX<|tN<|sQ<|rZ<|aT I<|bK<|SC.loop (ι:=Nat) (fun k=>[(8,.slice (some ⟨b8,0,none⟩) c.sides.length c.sides.length),(19,vi (k:Nat))]) (fun _=>g)
     (fun _=>rowA ae 3 v5 (es.map En.id)::rowA ae 3 (.slice p6 (es.map En.sum).length c6) (es.map En.sum)::rowA ae 3 (.slice p7 (es.map En.many).length c7) (es.map En.many)::rowA ae 3 v9 (es.map En.fi)::rowA ae 3 (.slice (some ⟨b8,0,none⟩) c.sides.length c.sides.length) (part)::pt b3 (.cells #[vi c.id,vi c.dim,.slice rp c.sides.length rcap] 54 (0,0))::s)
     (fun k=>k≤c.sides.length∧(part.take k).any (fun q=>decide (q≠part.getD 0 0))=false) (fun k=>c.sides.length - k) 0 sB rfl rfl ⟨zf6 _,by simp⟩ ?_
    rintro k3 ⟨hk3,hno3⟩;refine sQ<|sW I<|lM I<|lU (eN aG I)<|yL I<|tZ<|iP I (fun hltC=>?_) (fun hltC=>?_)
    ·have hkl:k3<part.length:=oM;have gk:part[((k3:Nat):Int).toNat]?=some part[k3]:=gE hkl;have g0:part[((0:Nat):Int).toNat]?=some (part.getD 0 0):=by
      have h:0<part.length:=oM;rw[show ((0:Nat):Int).toNat=0 from rfl,gE h,zh1,gE h]; rfl
     generalize hp0:part.getD 0 0=p0 at *;refine kP<|tN<|sQ<|bK<|sQ<|dW [] [(0,2),(1,2),(2,2),(3,1),(4,2),(5,2),(6,1),(7,2)] ze3 kR<|yM I<|yM I<|pU I (iA aG zT3 I I I oM sL)<|pK I (eB iT3 I (zb6 4 I) gk I)<|yM I<|pU I (iA aG zT3 I I I dC sL)<|pK I (eB iT3 I (zb6 4 I) g0 I)<|pU I (nQ I I)<|pN<|tN<|iP I (fun hz=>?_) (fun hz=>?_)
     ·refine rZ<|aT I<|rE<|bR<|tR<|tR<|bR<|tR<|dR (s':=s) (by repeat (first | exact zc3 _ | refine List.Sublist.cons _ ?_)) ?_;exact za7 (.inl I) results104 I ⟨by unfold iM; rw[hfin,zf9 (by rw[hno]; simp),zf9 (by rw[hno2]; simp),zg1<|zj8.2 ⟨part[k3],gM hkl,by rw[hp0]; simpa using hz⟩],I,I⟩
     ·exact kP<|bN<|tN<|rG<|lM I<|yD I<|lA I<|nL<|ST.again (k3+1) sB I I ⟨oM,by rw[tS hkl,List.any_append,hno3]; simpa using hz⟩ oM
    ·have hkk3:part.take k3=part:=tL oM;rw[hkk3] at hno3;refine xI<|tX<|tX<|bX<|tN<|rZ<|aT I<|rE<|dR (s':=s) (by repeat (first | exact zc3 _ | refine List.Sublist.cons _ ?_)) ?_;exact za7 (.inl I) results104 I ⟨by unfold iM; rw[hfin,zf9 (by rw[hno]; simp),zf9 (by rw[hno2]; simp),zf9 (by rw[hno3]; simp)],I,I⟩
theorem xS {tl:List Cl}{c:Cl}(h:cw tl c=0):∀ x∈c.sides,(ao tl x.cell).isSome=true:=by
 intro x hx;unfold cw at h;split at h
 ·cases h
 split at h
 ·cases h
 split at h
 ·cases h
 rename_i hno;have hno':(List.range c.sides.length).any (ff tl c)=false:=by simpa using hno
 obtain ⟨k,hk,rfl⟩:=zc7 hx;have h1:=zk6.1 hno' k<|List.mem_range.2 hk;cases hf:(ao tl c.sides[k].cell).isSome with
 | true=>rfl
 | false =>
  exfalso;apply h1;unfold ff;rw[gE hk];exact nR (by rw[hf]; simp)
theorem oI {tl:List Cl}:∀ {L:List Cl} {last:Int},fJ tl L last=none→(∀ x∈L,last<x.id)∧L.Pairwise fun a b=>a.id<b.id
 | [],_,_=>⟨by simp,List.Pairwise.nil⟩
 | x::r,last,h=>by
  unfold fJ at h;split at h
  ·cases h
  ·rename_i h1;split at h
   ·cases h
   ·obtain ⟨h2,h3⟩:=oI h;refine⟨fun y hy=>?_,zk4.2 ⟨h2,h3⟩⟩
    rcases zf1.1 hy with rfl | hy
    ·omega
    ·have:=h2 y hy; omega
theorem mM:∀ {L acc:List Cl},(acc++L).Pairwise (fun a b=>a.id<b.id)→L.foldl gS acc=acc++L
 | [],acc,_=>by simp
 | x::r,acc,h=>by
  have h1:acc.any (fun y=>y.id == x.id)=false:=by
   rw[zk6];intro y hy;have:=(List.pairwise_append.1 h).2.2 y hy x (by simp);simp;omega
  rw[zi7,kV h1,mM (by simpa using h)];simp
theorem bB {l:List Cl}(h:(aa l).Pairwise fun a b=>a.id<b.id):aW l=aa l:=by
 unfold aW;rw[mM (by simpa using h)];rfl
def my (tl:List Cl):List Cl→Option (Int×Int)
 | []=>none
 | x::r=>if x.dim>1∧iM tl x≠0 then some (x.id,iM tl x) else my tl r
def dj (l:List Cl):Int×Int:=if (l.length:Int)>4000 then (0,2) else (fJ (aW l) (aa l) 0).getD ((my (aa l)<|aa l).getD (0,0))
def gL (L:List Cl)(i:Nat):Int:=if i=0 then 0 else (L.getD (i - 1) bg).id
theorem vv {L:List Cl}{i:Nat}(h:i<L.length):gL L (i+1)=L[i].id:=by
 unfold gL;rw[zf9 oM];simp[h]
theorem gb (E:World)(g:PH)(s:Own)(v:Value)(l:List Cl)(hv:ak g v l)(hf:a8 l) :
  Ctr Tryz.prog E 67 #[.agg #[v]] g s (fun r g' s'=>r = .tuple #[vi (dj l).1,vi (dj l).2]∧s=s'∧Le g g'):=by
 obtain ⟨p,c,rfl⟩:=hv.form;have hsrt:=gi l;have hcl:=aN l;have hfc:=ba hf;have hft:=bL hf;have hts:=kx l;have hcs:=lx l;refine zb1 (args:=[.agg #[.slice p l.length c]]) func67 I ntmps67 (bE I)<|rZ (bW (bO I) fun b1=>?_);refine lA I<|aT I<|sQ<|rZ<|lU (fA du I di I)<|lK (qL dU I<|cO 0 I I)<|lU (eN aF I)<|lU (gR I I)<|tZ<|iP I (fun hmany=>?_) (fun hmany=>?_)
 ·exact rZ<|lA I<|aT I<|rE<|tR<|dR (s':=s) uR<|ST.ret2 (.inl I) results67 I I ⟨by unfold dj; rw[zg1 oM],I,zb8 g⟩
 ·refine kP<|tN<|rZ<|lU (fA du I di I)<|lK (qL dU I<|cO 0 I I)<|lW (SO.call call71 I<|jN E l.length g _ _ l (lR _) hv hf) ?_;rintro v16 g1 _ ⟨rfl,hle1,hL⟩;obtain ⟨rs,hrs,hall⟩:=hL;have hrl:=hall.length;obtain ⟨q,d,rfl⟩:=hrs.form;refine aT I<|rZ<|lK (qV 0 ar ag I I I)<|lW (SO.call call42 I<|dy E g1 _ _ l (hv.mono hle1) hf) ?_;rintro v18 g2 _ ⟨rfl,hle2,hO⟩;have hrs2:=hrs.mono hle2;have hall2:=hall.mono fun _ _=>ay.mono hle2;obtain ⟨q2,d2,rfl⟩:=hO.form;refine aT I<|sQ<|rZ<|aT I<|bK ?_;have hLc:ak g2 (.slice q rs.length d) (aa l):=⟨rs,hrs2,hall2⟩;have hchk:dj l=(fJ (aW l) (aa l) 0).getD ((my (aa l)<|aa l).getD (0,0)):=by unfold dj; rw[zf9 oM]
  refine SC.loop (ι:=Nat) (fun i=>[(1,pp b1 0),(4,.slice q rs.length d),(5,.slice q2 (aW l).length d2),(6,vi i)]) (fun _=>g2) (fun _=>pt b1 (.cells #[.slice p l.length c] 29 (0,0))::s)
   (fun i=>i≤rs.length∧fJ (aW l) (aa l) 0=fJ (aW l) ((aa l).drop i) (gL (aa l) i)∧(0<i→1≤gL (aa l) i)) (fun i=>rs.length - i) 0
   sB rfl rfl ⟨zf6 _,rfl,fun h=>absurd h oM⟩ ?_
  rintro i ⟨hi,hc1,hl1⟩;refine sQ<|sW I<|lM I<|lU (eN aF I)<|yL I<|tZ<|iP I (fun hlt=>?_) (fun hlt=>?_)
  ·have hil:i<(aa l).length:=oM;have hir:i<rs.length:=oM;have hb1:=hrs2.based oM;have hcr:=hall2.get (gE hil)<|gE hir;have hgx:rs[((i:Nat):Int).toNat]?=some rs[i]:=gE hir;have hdrop:(aa l).drop i=(aa l)[i]::(aa l).drop (i+1):=zg6 hil;have hxl:=hfc.2 _<|gM hil;have hls:=vv hil;rw[hdrop] at hc1;have hprev:0<i→∃ (r:Rc),rs[((i:Int) - 1).toNat]?=some r∧r.id=gL (aa l) i∧gL (aa l) i≤(aa l)[i].id:=fun h=>by
    have h2:i - 1<rs.length:=oM;have h3:i - 1<(aa l).length:=oM;refine⟨rs[i - 1],by rw[show ((i:Int) - 1).toNat=i - 1 by omega]; exact gE h2,?_,?_⟩
    ·have:=(hall2.get (gE h3)<|gE h2).1;rw[this];unfold gL;rw[zf9 oM];simp[h3]
    ·have:=zc9.1 hsrt (i - 1) i h3 hil oM;unfold gL;rw[zf9 oM];simpa [h3] using this
   generalize (aa l)[i]=x at *;generalize rs[i]=rx at *;obtain ⟨hx1,hx2,hx3⟩:=hcr;have hcr:ay g2 x rx:=⟨hx1,hx2,hx3⟩;have hbad:x.id≤gL (aa l) i→dj l=(x.id,20):=fun h=>by rw[hchk,hc1,fJ,zg1 h]; rfl
   by_cases hx0:x.id<1
   ·have hle0:x.id≤gL (aa l) i:=by
     by_cases h0:0<i
     ·have:=hl1 h0; omega
     ·have:i=0:=oM;subst this;show x.id≤0;omega
    refine kP<|tN<|sQ<|bK<|sQ<|sQ<|dW [] [(0,2),(1,2),(2,2),(3,2),(4,1),(5,2),(6,2),(7,2),(8,2),(9,2),(10,2),(11,2),(12,2),(13,2),(14,1),(15,2),(16,2),(17,2),(18,2),(19,2),(20,1),(21,2),(22,2),(23,2)] ze3 kR<|yM I<|yM I<|pU I (iA aF au I I hb1 oM sL)<|pU I (fC aw I zT3 I hb1)<|pK I (aZ (e:=encCell) (o:=0) (u:=vi x.id) iT3 I hrs2.rd hgx (by rw[← hx1]; rfl)) ?_;refine pU I (SU.eq (v':=vb true) (lS I I)<|ze2 vb<|zf8 hx0)<|yM I<|yG I<|yG I<|yG I<|yH I<|yH I<|yH I<|yH I<|SP.off1 I (zb3 I I I dC) dC<|yH I<|yH I<|yH I<|yH I<|yH I<|SP.off1 I (zb3 I I I dC) dC<|yH I<|yG I<|pU I (wT I I)<|pN<|tN<|za1 I<|sW I<|lM I<|lU (iA aF au I I hb1 oM sL)<|lU (fC aw I zT3 I hb1)<|lK (aZ (e:=encCell) (o:=0) (u:=vi x.id) iT3 I hrs2.rd hgx (by rw[← hx1]; rfl)) ?_;exact lA I<|aT I<|rE<|tR<|bR<|tR<|tR<|bR<|tR<|dR (s':=s) uR<|ST.ret2 (.inl I) results67 I I ⟨by rw[hbad hle0],I,hle1.trans hle2⟩
   ·have hgo:gL (aa l) i<x.id→fJ (aW l) (aa l) 0=if cw (aW l) x≠0 then some (x.id,cw (aW l) x) else fJ (aW l) ((aa l).drop<|i+1) (gL (aa l)<|i+1):=fun h=>by
     rw[hc1,fJ,zf9 oM,hls]
    by_cases hi0:(i:Int)>0
    ·obtain ⟨rp,hrp,hrpi,hrple⟩:=hprev oM;refine kP<|tN<|sQ<|bK<|sQ<|sQ<|dW [] [(0,2),(1,2),(2,2),(3,2),(4,1),(5,2),(6,2),(7,2),(8,2),(9,2),(10,2),(11,2),(12,2),(13,2),(14,1),(15,2),(16,2),(17,2),(18,2),(19,2),(20,1),(21,2),(22,2),(23,2)] ze3 kR<|yM I<|yM I<|pU I (iA aF au I I hb1 oM sL)<|pU I (fC aw I zT3 I hb1)<|pK I (aZ (e:=encCell) (o:=0) (u:=vi x.id) iT3 I hrs2.rd hgx (by rw[← hx1]; rfl)) ?_;refine pU I (SU.eq (v':=vb false) (lS I I)<|ze2 vb<|zf7 hx0)<|yM I<|yJ I<|zb2 I (gT I I I dC) (SU.eq (v':=vb true) (gR I I)<|ze2 vb<|zf8 hi0) dC<|yJ I<|yJ I<|yJ I<|zb2 I (gT I I I dC) (iA aF au I I hb1 oM sL) dC<|zb2 I (gT I I I dC) (fC aw I zT3 I hb1) dC<|SP.gq I (gT I I I dC) (aZ (e:=encCell) (o:=0) (u:=vi x.id) iT3 I hrs2.rd hgx (by rw[← hx1]; rfl)) dC ?_;refine yJ I<|yJ I<|zb2 I (gT I I I dC) (sU I I oM) dC<|zb2 I (gT I I I dC) (iA aF au I I hb1 oM sL) dC<|zb2 I (gT I I I dC) (fC aw I zT3 I hb1) dC<|SP.gq I (gT I I I dC) (aZ (e:=encCell) (o:=0) (u:=vi<|gL (aa l) i) iT3 I hrs2.rd hrp (by rw[← hrpi]; rfl)) dC ?_;refine zb2 I (gT I I I dC) (eQ I I) dC<|zb2 I (gT I I I dC) (wT I I) dC<|pU I (wF I I)<|pN<|tN<|iP I (fun heq=>?_) (fun heq=>?_)
     ·refine sW I<|lM I<|lU (iA aF au I I hb1 oM sL)<|lU (fC aw I zT3 I hb1)<|lK (aZ (e:=encCell) (o:=0) (u:=vi x.id) iT3 I hrs2.rd hgx (by rw[← hx1]; rfl)) ?_;exact lA I<|aT I<|rE<|tR<|bR<|tR<|tR<|bR<|tR<|dR (s':=s) uR<|ST.ret2 (.inl I) results67 I I ⟨by rw[hbad oM],I,hle1.trans hle2⟩
     ·refine kP<|tN<|sW I<|lM I<|lM I<|lU (iA aF au I I hb1 oM sL)<|lK (eA (e:=encCell) bQ au I hrs2.rd hgx)<|lW (SO.call call103 I<|qx E g2 _ _ (aW l) x rx hO hft.1 hts hcr hxl) ?_;rintro _ _ _ ⟨rfl,rfl,rfl⟩;refine aT I<|sW I<|lU (nQ I I)<|tZ ?_;have hg:=hgo oM;refine iP I (fun he=>?_) (fun he=>?_)
      ·rw[zg1 he] at hg;refine sW I<|lM I<|lU (iA aF au I I hb1 oM sL)<|lU (fC aw I zT3 I hb1)<|lK (aZ (e:=encCell) (o:=0) (u:=vi x.id) iT3 I hrs2.rd hgx (by rw[← hx1]; rfl)) ?_;exact lM I<|lA I<|aT I<|rE<|bR<|tR<|tR<|bR<|tR<|dR (s':=s) uR<|ST.ret2 (.inl I) results67 I I ⟨by rw[hchk,hg]; rfl,rfl,hle1.trans hle2⟩
      ·rw[zf9 he] at hg;exact kP<|bN<|tN<|rG<|lM I<|yD I<|lA I<|nL<|ST.again (i+1) sB I I ⟨oM,hg,fun _=>by rw[hls]; omega⟩ oM
    ·have hi00:i=0:=oM;have hg:=hgo (by rw[hi00]; show (0:Int)<x.id; omega);refine kP<|tN<|sQ<|bK<|sQ<|sQ ?_;refine dW [] [(0,2),(1,2),(2,2),(3,2),(4,1),(5,2),(6,2),(7,2),(8,2),(9,2),(10,2),(11,2),(12,2),(13,2),(14,1),(15,2),(16,2),(17,2),(18,2),(19,2),(20,1),(21,2),(22,2),(23,2)] ze3 kR ?_;refine yM I<|yM I<|pU I (iA aF au I I hb1 oM sL)<|pU I (fC aw I zT3 I hb1)<|pK I (aZ (e:=encCell) (o:=0) (u:=vi x.id) iT3 I hrs2.rd hgx (by rw[← hx1]; rfl)) ?_;refine pU I (SU.eq (v':=vb false) (lS I I)<|ze2 vb<|zf7 hx0)<|yM I<|yJ I<|zb2 I (gT I I I dC) (SU.eq (v':=vb false) (gR I I)<|ze2 vb<|zf7 hi0) dC<|yJ I<|yG I<|yG I<|yG I<|yG I<|yI I<|yG I<|yG I<|yG I<|yG I<|yG I<|yI I<|yG I<|zb2 I (gT I I I dC) (wF I I) dC<|pU I (wF I I)<|pN<|tN<|cF I<|kP<|tN<|sW I<|lM I<|lM I<|lU (iA aF au I I hb1 oM sL) ?_;refine lK (eA (e:=encCell) bQ au I hrs2.rd hgx)<|lW (SO.call call103 I<|qx E g2 _ _ (aW l) x rx hO hft.1 hts hcr hxl) ?_;rintro _ _ _ ⟨rfl,rfl,rfl⟩;refine aT I<|sW I<|lU (nQ I I)<|tZ ?_;refine iP I (fun he=>?_) (fun he=>?_)
     ·rw[zg1 he] at hg;refine sW I<|lM I<|lU (iA aF au I I hb1 oM sL)<|lU (fC aw I zT3 I hb1)<|lK (aZ (e:=encCell) (o:=0) (u:=vi x.id) iT3 I hrs2.rd hgx (by rw[← hx1]; rfl)) ?_;exact lM I<|lA I<|aT I<|rE<|bR<|tR<|tR<|bR<|tR<|dR (s':=s) uR<|ST.ret2 (.inl I) results67 I I ⟨by rw[hchk,hg]; rfl,rfl,hle1.trans hle2⟩
     ·rw[zf9 he] at hg;exact kP<|bN<|tN<|rG<|lM I<|yD I<|lA I<|nL<|ST.again (i+1) sB I I ⟨oM,hg,fun _=>by rw[hls]; omega⟩ oM
  ·have hid:(aa l).drop i=[]:=List.drop_eq_nil_of_le oM;rw[hid] at hc1;have hnone:fJ (aW l) (aa l) 0=none:=hc1;have hst:=(oI hnone).2;have htab:=bB hst;have hform:=nN hnone;rw[hnone] at hchk;have hchk2:dj l=(my (aa l)<|aa l).getD (0,0):=hchk;refine xI<|tX<|tX<|bX<|tN<|sQ<|rZ<|aT I<|bK<|SC.loop (ι:=Nat) (fun i=>[(1,pp b1 0),(4,.slice q rs.length d),(8,vi i)]) (fun _=>g2) (fun _=>pt b1 (.cells #[.slice p l.length c] 29 (0,0))::s)
    (fun i=>i≤rs.length∧my (aa l) (aa l)=my (aa l) ((aa l).drop i)) (fun i=>rs.length - i) 0
    sB rfl rfl ⟨zf6 _,rfl⟩ ?_
   rintro j ⟨hj,hc2⟩;refine sQ<|sW I<|lM I<|lU (eN aF I)<|yL I<|tZ<|iP I (fun hlt2=>?_) (fun hlt2=>?_)
   ·have hjl:j<(aa l).length:=oM;have hjr:j<rs.length:=oM;have hb1:=hrs2.based oM;have hcr:=hall2.get (gE hjl)<|gE hjr;have hgx:rs[((j:Nat):Int).toNat]?=some rs[j]:=gE hjr;have hdrop:(aa l).drop j=(aa l)[j]::(aa l).drop (j+1):=zg6 hjl;have hxm:(aa l)[j]∈aa l:=gM hjl;rw[hdrop] at hc2;generalize (aa l)[j]=x at *;generalize rs[j]=rx at *;obtain ⟨hx1,hx2,hx3⟩:=hcr;have hcr:ay g2 x rx:=⟨hx1,hx2,hx3⟩;have haok:=yx hform hxm;have hfound:=xS<|hform x hxm;rw[htab] at haok hfound;refine kP<|tN<|sQ<|bK<|sQ<|sW I<|lM I<|lU (iA aF au I I hb1 oM sL)<|lU (fC aw I zT3 I hb1)<|lK (aZ (e:=encCell) (o:=1) (u:=vi x.dim) iT3 I hrs2.rd hgx (by rw[← hx2]; rfl)) ?_;refine yL I<|tZ<|iP I (fun hdm=>?_) (fun hdm=>?_)
    ·exact xI<|tX<|bX<|tN<|rG<|lM I<|yD I<|lA I<|nL<|ST.again (j+1) sB I I ⟨oM,by rw[hc2,my,zf9 (fun h=>by omega)]⟩ oM
    ·refine kP<|tN<|sW I<|lM I<|lM I<|lU (iA aF au I I hb1 oM sL)<|lK (eA (e:=encCell) bQ au I hrs2.rd hgx)<|lW (SO.call call104 I<|uO E g2 _ _ (aa l) x rx hLc hfc.1 hcs hcr haok.1 hfound<|fun y hy=>(haok.2.2 y hy).1) ?_;rintro _ _ _ ⟨rfl,rfl,rfl⟩;refine aT I<|sW I<|lU (nQ I I)<|tZ<|iP I (fun he=>?_) (fun he=>?_)
     ·refine sW I<|lM I<|lU (iA aF au I I hb1 oM sL)<|lU (fC aw I zT3 I hb1)<|lK (aZ (e:=encCell) (o:=0) (u:=vi x.id) iT3 I hrs2.rd hgx (by rw[← hx1]; rfl)) ?_;exact lM I<|lA I<|aT I<|rE<|bR<|tR<|tR<|bR<|tR<|dR (s':=s) uR<|ST.ret2 (.inl I) results67 I I ⟨by rw[hchk2,hc2,my,zg1 ⟨oM,he⟩]; rfl,rfl,hle1.trans hle2⟩
     ·exact kP<|bN<|tN<|rG<|lM I<|yD I<|lA I<|nL<|ST.again (j+1) sB I I ⟨oM,by rw[hc2,my,zf9 (fun h=>he h.2)]⟩ oM
   ·have hjd:(aa l).drop j=[]:=List.drop_eq_nil_of_le oM;rw[hjd] at hc2;exact xI<|tX<|tX<|bX<|tN<|rZ<|lA I<|aT I<|rE<|dR (s':=s) uR<|ST.ret2 (.inl I) results67 I I ⟨by rw[hchk2,hc2]; rfl,rfl,hle1.trans hle2⟩
theorem ga (E:World)(g:PH)(s:Own)(v:Value)(l:List Cl)(hv:ak g v l)(hf:a8 l) :
  Ctr Tryz.prog E 37 #[.agg #[v]] g s (fun r g' s'=>r=vb (decide ((dj l).2=0))∧s=s'∧Le g g'):=by
 refine zb1 (args:=[.agg #[v]]) func37 I ntmps37 (bE I)<|rZ (bW (bO I) fun b1=>?_);refine aT I<|rZ<|lK (qV 0 ar ag I I I)<|lW (SO.call call67 I<|gb E g _ _ l hv hf) ?_;rintro _ g1 _ ⟨rfl,rfl,hle⟩;exact lM I<|yX I<|yX I<|lA I<|aT I<|sW I<|yE I<|aT I<|rE<|dR (s':=s) uR<|za7 (.inl I) results37 I ⟨I,I,hle⟩
theorem ub {a b:List Int}(h:a.length≠b.length):decide (aC a b<0)=decide ((a.length:Int)<b.length):=by
 unfold aC
 rcases bC a.length b.length with ⟨h1,e⟩ | ⟨h1,e⟩ | ⟨h1,e⟩
 ·rw[e]; simp; omega
 ·omega
 ·rw[e]; simp; omega
theorem ge {a b:List Int}(h:a.length=b.length):aC a b=jd a b:=by
 unfold aC
 rcases bC a.length b.length with ⟨h1,e⟩ | ⟨h1,e⟩ | ⟨h1,e⟩
 ·omega
 ·rw[e]; simp
 ·omega
theorem uc {x y:Int}{a b:List Int}(h:x≠y):decide (jd (x::a) (y::b)<0)=decide (x<y):=by
 rw[decide_eq_decide];simp only[jd]
 rcases bC x y with ⟨h1,e⟩ | ⟨h1,e⟩ | ⟨h1,e⟩
 ·rw[e]; simp; omega
 ·omega
 ·rw[e]; simp; omega
theorem ud {x y:Int}{a b:List Int}(h:x=y):jd (x::a) (y::b)=jd a b:=by
 simp only[jd]
 rcases bC x y with ⟨h1,e⟩ | ⟨h1,e⟩ | ⟨h1,e⟩
 ·omega
 ·rw[e]; simp
 ·omega
theorem oO (E:World)(g:PH)(s:Own)(v u:Value)(a b:List Int)(hv:dJ g v a)(hu:dJ g u b)(hl:a.length<1099511627776) :
  Ctr Tryz.prog E 133 #[v,u] g s (fun r g' s'=>r=vb (decide (aC a b<0))∧g=g'∧s=s'):=by
 obtain ⟨p,c,rfl⟩:=za3 hv;obtain ⟨q,d,rfl⟩:=za3 hu;refine zb1 (args:=[.slice p a.length c,.slice q b.length d]) func133 I ntmps133 (bE I)<|rZ<|aT I<|sQ<|sW I<|lU (eN aG I)<|lM I<|lU (eN aG I)<|lU (nQ I I)<|tZ<|iP I (fun hne=>?_) (fun hne=>?_)
 ·exact sW I<|lU (eN aG I)<|lM I<|lU (eN aG I)<|yL I<|aT I<|rE<|tR<|za7 (.inl I) results133 I ⟨by rw[ub oM],I,I⟩
 ·have hlen:a.length=b.length:=oM;have hcc:=ge hlen;refine kP<|tN<|sQ<|rZ<|aT I<|bK<|SC.loop (ι:=Nat) (fun k=>[(0,.slice p a.length c),(1,.slice q b.length d),(5,vi k)]) (fun _=>g) (fun _=>s) (fun k=>k≤a.length∧jd a b=jd (a.drop k) (b.drop k)) (fun k=>a.length - k) 0
   sB rfl rfl ⟨zf6 _,by simp⟩ ?_
  rintro k ⟨hk,heq⟩;refine sQ<|sW I<|lM I<|lU (eN aG I)<|yL I<|tZ<|iP I (fun hlt=>?_) (fun hlt=>?_)
  ·have hka:k<a.length:=oM;have hkb:k<b.length:=oM;have hb1:=za5 hv oM;have hb2:=za5 hu oM;rw[zg6 hka,zg6 hkb] at heq;refine kP<|tN<|sQ<|bK<|sQ<|dW [] [(0,2),(1,2),(2,2),(3,1),(4,2),(5,2),(6,2),(7,1),(8,2)] ze3 kR<|yM I<|yM I<|pU I (iA aG zT3 I I (by assumption) oM<|by (simp[slen]; omega)) ?_;refine pQ I (eB iT3 I (za6 hv) (gE hka) I) dC ?_;refine yM I<|yM I<|pU I (iA aG zT3 I I (by assumption) oM<|by (simp[slen]; omega)) ?_;refine pQ I (eB iT3 I (za6 hu) (gE hkb) I) dC ?_;refine pU I (nQ I I)<|pN<|tN ?_;refine iP I (fun hd=>?_) (fun hd=>?_)
   ·refine sQ<|dW [] [(0,2),(1,2),(2,2),(3,1),(4,2),(5,2),(6,2),(7,1),(8,2),(9,2)] ze3 kR<|yM I<|yM I<|pU I (iA aG zT3 I I (by assumption) oM<|by (simp[slen]; omega)) ?_;refine pQ I (eB iT3 I (za6 hv) (gE hka) I) dC ?_;refine yM I<|yM I<|pU I (iA aG zT3 I I (by assumption) oM<|by (simp[slen]; omega)) ?_;refine pQ I (eB iT3 I (za6 hu) (gE hkb) I) dC ?_;refine pU I (lS I I)<|pU I (aS I)<|pN<|tN<|rE<|bR<|tR<|tR<|bR<|tR ?_;exact za7 (.inl I) results133 I ⟨by rw[hcc,heq,uc hd],I,I⟩
   ·exact kP<|bN<|tN<|rG<|lM I<|yD I<|lA I<|nL<|ST.again (k+1) sB I I ⟨oM,by rw[heq,ud<|zg9 hd]⟩ oM
  ·rw[List.drop_eq_nil_of_le oM,List.drop_eq_nil_of_le oM] at heq;exact xI<|tX<|tX<|bX<|tN<|rZ<|aT I<|rE<|za7 (.inl I) results133 I ⟨by rw[hcc,heq]; rfl,rfl,rfl⟩
theorem qe (E:World)(g:PH)(s:Own)(v u:Value)(ls:List (List Int))(t:List Int)(hv:f9 g v ls)(hu:dJ g u t)(hl:ls.length<1099511627776)(hll:∀ x∈ls,x.length<1099511627776)(htl:t.length<1099511627776)(hs:A5 ls) :
  Ctr Tryz.prog E 95 #[v,u] g s (fun r g' s'=>r = .tuple #[vi<|lbL ls t,vb<|ls.contains t]∧g=g'∧s=s'):=by
 obtain ⟨rs,hrs,hall⟩:=hv;have hlen:=hall.length;have hmono:=Bs hs t;obtain ⟨p,c,rfl⟩:=za3 hrs;refine zb1 (args:=[.slice p rs.length c,u]) func95 I ntmps95 (bE I)<|rZ<|lA I<|aT I<|rZ<|aT I<|sW I<|lU (eN fX I)<|aT I<|sQ<|bK<|SC.loop (ι:=Nat×Nat) (fun q=>[(0,.slice p rs.length c),(1,u),(6,vi q.1),(7,vi q.2)]) (fun _=>g) (fun _=>s)
  (fun q=>q.1≤q.2∧q.2≤ls.length∧(∀ k (h:k<ls.length),k<q.1→aC ls[k] t<0)∧∀ k (h:k<ls.length),q.2≤k→¬ aC ls[k] t<0) (fun q=>q.2 - q.1) (0,ls.length)
  ⟨rfl,rfl,rfl,aU oM,trivial⟩ rfl rfl ⟨zf6 _,lR _,fun k _ h=>absurd h oM,fun k h1 h2=>absurd h1 (by dsimp only at h2; omega)⟩ ?_
 rintro ⟨i,j⟩ ⟨hij,hj,hlo,hhi⟩;dsimp only at hij hj hlo hhi ⊢;refine sQ<|sW I<|lM I<|yL I<|tZ<|iP I (fun hlt=>?_) (fun hlt=>?_)
 ·have hb1:=hrs.based oM;have hml:(i+j) / 2<ls.length:=oM;have hmr:(i+j) / 2<rs.length:=oM;have hmx:rs[((((i+j) / 2:Nat):Int)).toNat]?=some rs[(i+j) / 2]:=gE hmr;have hR:=hall.get (gE hml)<|gE hmr;have hxl:=hll _<|gM hml;refine kP<|tN<|bK<|sW I<|lM I<|yD I<|lU (SU.eq (v':=vi (((i+j) / 2:Nat):Int)) (SU.quo I I dC)<|ze2 vi (by rw[← Int.natCast_add]; exact la _ oM)) ?_;refine aT I<|sW I<|lM I<|lU (iA fX mS I I hb1 oM sL)<|lK (eB pC I hrs.rd hmx I)<|lM I<|lW (SO.call call133 I<|oO E g _ _ _ ls[(i+j) / 2] t hR hu hxl) ?_;rintro _ _ _ ⟨rfl,rfl,rfl⟩;refine tZ<|iP I (fun hc=>?_) (fun hc=>?_)
  ·refine rG<|lM I<|yD I<|lA I<|nL<|bN<|ST.again ((i+j) / 2+1,j) sB I I ⟨lN,hj,fun k hk h=>?_,hhi⟩ lN;dsimp only at h
   rcases Nat.eq_or_lt_of_le (show k≤(i+j) / 2 by omega) with rfl | h'
   ·exact hc
   ·exact hmono k ((i+j) / 2) hk hml h' hc
  ·refine rG<|lM I<|lA I<|nL<|bN<|ST.again (i,(i+j) / 2) sB I I ⟨lN,lN,hlo,fun k hk h=>?_⟩ lN;dsimp only at h
   rcases Nat.eq_or_lt_of_le (show (i+j) / 2≤k by omega) with h' | h'
   ·subst h'; exact hc
   ·exact fun hx=>hc<|hmono ((i+j) / 2) k hml hk h' hx
 ·have hie:i=j:=oM;subst hie;have hlb:lbL ls t=i:=El hj (fun k h h'=>by simpa using hlo k h h') (fun k h h'=>by simpa using hhi k h h');by_cases hin:(i:Int)<(rs.length:Int)
  ·have hil:i<ls.length:=oM;have hir:i<rs.length:=oM;have hb1:=hrs.based oM;have hmx:rs[((i:Nat):Int).toNat]?=some rs[i]:=gE hir;have hR:=hall.get (gE hil)<|gE hir;have hfound:(!decide (aC t ls[i]<0))=ls.contains t:=by
    have h1:=hhi i hil<|lR _;by_cases h2:aC t ls[i]<0
    ·rw[zf8 h2];symm;rw[Bool.not_true,← zj7];intro hm;have hm':t∈ls:=by simpa using hm
     obtain ⟨k,hk,rfl⟩:=zc7 hm'
     rcases Nat.lt_trichotomy k i with h3 | h3 | h3
     ·have:=hlo k hk h3; rw[c8] at this; omega
     ·subst h3; rw[c8] at h2; omega
     ·exact zc9.1 hs i k hil hk h3 h2
    ·rw[zf7 h2];have h3:t=ls[i]:=by
      rcases ew t ls[i] with h | h | h
      ·exact absurd h h2
      ·exact h
      ·exact absurd h h1
     symm;rw[Bool.not_false];have:t∈ls:=by rw[h3]; exact gM hil
     simpa using this
   refine xI<|tX<|tX<|bX<|tN<|sW I<|lM I<|lM I<|lU (eN fX I)<|lU (SU.eq (v':=vb true) (lS I I)<|ze2 vb<|zf8 hin)<|lM I<|yC I<|yC I<|yC I<|lY I I I (iA fX mS I I hb1 oM sL)<|SL.gq (gT I I I dC) (eB pC I hrs.rd hmx I) dC<|ze1 (gT I I I dC) (SO.call call133 I<|oO E g _ _ _ t ls[i] hu hR htl) dC ?_;rintro _ _ _ ⟨rfl,rfl,rfl⟩;exact lY I I I (SU.not I)<|yP I<|lA I<|aT I<|rE<|ST.ret2 (.inl I) results95 I I ⟨by rw[hlb,← hfound],I,I⟩
  ·have hnf:ls.contains t=false:=by
    rw[← zj7];intro hm;have hm':t∈ls:=by simpa using hm
    obtain ⟨k,hk,rfl⟩:=zc7 hm';have:=hlo k hk oM;rw[c8] at this;omega
   exact xI<|tX<|tX<|bX<|tN<|sW I<|lM I<|lM I<|lU (eN fX I)<|lU (SU.eq (v':=vb false) (lS I I)<|ze2 vb<|zf7 hin)<|lM I<|yA I<|yA I<|yA I<|yA I<|yA I<|yA I<|yA I<|yF I<|lA I<|aT I<|rE<|ST.ret2 (.inl I) results95 I I ⟨by rw[hlb,hnf],I,I⟩
abbrev dI (l:List Int):Prop:=l.Pairwise (· < ·)
theorem li:∀ {l m:List Int},dI l→dI m→(∀ x,x∈l↔x∈m)→l=m
 | [],[],_,_,_=>rfl
 | [],y::m,_,_,h=>by have:=(h y).2 (by simp); simp at this
 | x::l,[],_,_,h=>by have:=(h x).1 (by simp); simp at this
 | x::l,y::m,hl,hm,h=>by
  obtain ⟨h1,h2⟩:=zk4.1 hl;obtain ⟨h3,h4⟩:=zk4.1 hm;have hxy:x=y:=by
   rcases zf1.1 ((h x).1<|by simp) with e | hx
   ·exact e
   ·rcases zf1.1 ((h y).2<|by simp) with e | hy
    ·exact e.symm
    ·have:=h3 x hx; have:=h1 y hy; omega
  subst hxy;rw[li h2 h4 fun z=>?_];constructor
  ·intro hz
   rcases zf1.1 ((h z).1<|by simp[hz]) with e | hz'
   ·have:=h1 z hz; omega
   ·exact hz'
  ·intro hz
   rcases zf1.1 ((h z).2<|by simp[hz]) with e | hz'
   ·have:=h3 z hz; omega
   ·exact hz'
theorem jg:∀ {x:Int} {l:List Int},(x::l).Pairwise (· ≤ ·)→dI (fL (fun a b:Int=>decide (a=b)) x l)∧(∀ y∈fL (fun a b:Int=>decide (a=b)) x l,x<y)∧∀ y,y∈l→y=x∨y∈fL (fun a b:Int=>decide (a=b)) x l
 | x,[],_=>⟨List.Pairwise.nil,by simp[fL],by simp⟩
 | x,y::r,h=>by
  obtain ⟨h1,h2⟩:=zk4.1 h;obtain ⟨i1,i2,i3⟩:=jg h2;have hxy:=h1 y (by simp);unfold fL;by_cases e:y=x
  ·subst e;simp only[decide_true,if_true];refine⟨i1,i2,fun z hz=>?_⟩
   rcases zf1.1 hz with rfl | hz
   ·exact .inl I
   ·exact i3 z hz
  ·simp only[e,decide_false];refine⟨zk4.2 ⟨i2,i1⟩,fun z hz=>?_,fun z hz=>?_⟩
   ·rcases zf1.1 hz with rfl | hz
    ·omega
    ·have:=i2 z hz; omega
   ·rcases zf1.1 hz with rfl | hz
    ·exact .inr (by simp)
    ·rcases i3 z hz with rfl | h
     ·exact .inr (by simp)
     ·exact .inr (by simp[h])
theorem mD (l:List Int):(tH l).Pairwise (· ≤ ·):=by
 have:=List.pairwise_mergeSort (le:=fun x y:Int=>decide (x≤y)) (fun a b c h1 h2=>by simp at *; omega) (fun a b=>by simp; omega) l;exact this.imp fun h=>by simpa using h
theorem kz (l:List Int):dI (eo l):=by
 have hs:=mD l;unfold eo;cases h:tH l with
 | nil=>exact List.Pairwise.nil
 | cons x r =>
  rw[h] at hs;obtain ⟨h1,h2,_⟩:=jg hs;exact zk4.2 ⟨h2,h1⟩
theorem m7 (l:List Int)(y:Int):y∈eo l↔y∈l:=by
 have hs:=mD l;have hp:=xk l;rw[← hp.mem_iff];unfold eo;refine⟨fun h=>(vV _ _).subset h,fun h=>?_⟩;cases hc:tH l with
 | nil=>rw[hc] at h; simp at h
 | cons x r =>
  rw[hc] at hs h
  rcases zf1.1 h with rfl | h
  ·simp[yo]
  ·rcases (jg hs).2.2 y h with rfl | h
   ·simp[yo]
   ·simp[yo,h]
theorem Dg {l out:List Int}(hs:dI out)(hm:∀ x,x∈out↔x∈l):out=eo l:=li hs (kz l) fun x=>by rw[hm,m7]
theorem zH {a b:List Int}(ha:dI a)(h:∀ x∈a,x∈b):a.length≤b.length:=wy (ha.imp fun h=>by omega) h
def okS (l:List Int):Bool:=!(l.any fun x=>decide (x<0))&&decide ((eo l).length≤9)
theorem Dx {l:List Int}(h:okS l=false):lV (eo l)=true:=by
 unfold okS at h;rw[Bool.and_eq_false_iff] at h;cases hc:eo l with
 | nil=>rfl
 | cons a r =>
  unfold lV
  rcases h with h | h
  ·simp only[Bool.not_eq_false',zj8,zj5] at h;obtain ⟨x,hx,hx0⟩:=h;have h1:=(m7 l x).2 hx;rw[hc] at h1;have hs:=kz l;rw[hc] at hs;have:a≤x:=by
    rcases zf1.1 h1 with rfl | h2
    ·omega
    ·have:=(zk4.1 hs).1 x h2; omega
   simp;omega
  ·rw[hc] at h;simp at h ⊢;omega
theorem BM {l:List Int}(h:okS l=true):(eo l).length≤9∧(lV (eo l)=true→eo l=[]):=by
 unfold okS at h;simp only[zj3,Bool.not_eq_true',zj5] at h;refine⟨h.2,fun hb=>?_⟩;cases hc:eo l with
 | nil=>rfl
 | cons a r =>
  rw[hc] at hb;unfold lV at hb;rw[hc] at h;simp at hb;have ha:a∈l:=(m7 l a).1 (by rw[hc]; simp);have h3:=zk6.1 h.1 a ha;simp at h3;have h4:=h.2;simp at h4;omega
theorem xJ {out:List Int}{x:Int}{k:Nat}(hs:dI out)(h1:∀ y∈out.take k,y<x)(h2:∀ y∈out.drop k,x<y):dI (out.take k++x::out.drop k):=by
 have hs':dI (out.take k++out.drop k):=by rw[zj2]; exact hs
 have h3:=List.pairwise_append.1 hs';refine List.pairwise_append.2 ⟨h3.1,zk4.2 ⟨h2,h3.2.1⟩,fun y hy z hz=>?_⟩
 rcases zf1.1 hz with rfl | hz
 ·exact h1 y hy
 ·exact h3.2.2 y hy z hz
theorem yW {α:Type}{out:List α}{x y:α}{k:Nat}:y∈out.take k++x::out.drop k↔y=x∨y∈out:=by
 rw[zf3,zf1];constructor
 ·rintro (h | h | h)
  ·exact .inr<|List.mem_of_mem_take h
  ·exact .inl h
  ·exact .inr<|List.mem_of_mem_drop h
 ·rintro (h | h)
  ·exact .inr<|.inl h
  ·rw[← zj2 k out] at h
   rcases zf3.1 h with h | h
   ·exact .inl h
   ·exact .inr<|.inr h
theorem nX {out:List Int}{c:Int}{k:Nat}(hs:dI out)(hk:k<out.length)(h:c≤out[k]):∀ y∈out.drop k,c≤y:=by
 rw[zg6 hk];intro y hy;have h1:dI (out.drop k):=List.Pairwise.sublist (List.drop_sublist k out) hs;rw[zg6 hk] at h1
 rcases zf1.1 hy with rfl | hy
 ·exact h
 ·have:=(zk4.1 h1).1 y hy;omega
theorem BB (E:World)(g:PH)(s:Own)(v:Value)(l:List Int)(hv:dJ g v l)(hl:l.length<17592186044416) :
  Ctr Tryz.prog E 94 #[v] g s (fun r g' s'=>s=s'∧Le g g'∧((okS l=true∧∃ u,r = .tuple #[u,vb true]∧dJ g' u (eo l))∨(okS l=false∧r = .tuple #[.slice none 0 0,vb false]))):=by
 obtain ⟨p,c,rfl⟩:=za3 hv;refine zb1 (args:=[.slice p l.length c]) func94 I ntmps94 (bE I)<|rZ<|lA I<|aT I<|rZ<|aT I<|sQ<|rZ<|aT I<|bK<|SC.loop (ι:=PH×Value×List Int×Nat) (fun i=>[(0,.slice p l.length c),(4,i.2.1),(5,vi i.2.2.2)]) (fun i=>i.1) (fun _=>s)
  (fun i=>Le g i.1∧dJ i.1 i.2.1 i.2.2.1∧i.2.2.2≤l.length∧dI i.2.2.1∧(∀ x,x∈i.2.2.1↔x∈l.take i.2.2.2)∧((l.take i.2.2.2).any (fun x=>decide (x<0))=false∧i.2.2.1.length≤9)) (fun i=>l.length - i.2.2.2)
  (g,.slice none 0 0,[],0) sB rfl rfl ⟨zb8 g,zb9 g _,zf6 _,List.Pairwise.nil,by simp,by simp,by simp⟩ ?_
 rintro ⟨g1,ov,out,i⟩ ⟨hle,hov,hi,hstr,hmem,hneg,h9⟩;dsimp only at hle hov hi hstr hmem hneg h9 ⊢;obtain ⟨q,d,rfl⟩:=za3 hov;have hqc:=(SlA.cap hov).2;refine sQ<|sW I<|lM I<|lU (eN aG I)<|yL I<|tZ<|iP I (fun hlt=>?_) (fun hlt=>?_)
 ·have hil:i<l.length:=oM;have hb1:=za5 (hv.mono hle) oM;have hgi:l[((i:Nat):Int).toNat]?=some l[i]:=gE hil;have htk:l.take (i+1)=l.take i++[l[i]]:=tS hil;have hxm:l[i]∈l:=gM hil;generalize l[i]=x at *;refine kP<|tN<|sQ<|bK<|rZ<|aT I<|SC.cut (ι:=Nat) (fun k=>[(0,.slice p l.length c),(4,.slice q out.length d),(5,vi i),(6,vi k)]) (fun _=>g1) (fun _=>s) (fun k=>k≤out.length∧(∀ y∈out.take k,y<x)∧∀ y∈out.drop k,x≤y) ?_ ?_
  ·refine bK<|SC.loop (ι:=Nat) (fun k=>[(0,.slice p l.length c),(4,.slice q out.length d),(5,vi i),(6,vi k)]) (fun _=>g1) (fun _=>s) (fun k=>k≤out.length∧∀ y∈out.take k,y<x) (fun k=>out.length - k) 0
    sB rfl rfl ⟨zf6 _,by simp⟩ ?_
   rintro k ⟨hk,htake⟩;by_cases hin:(k:Int)<(out.length:Int)
   ·have hkl:k<out.length:=oM;have hb2:=za5 hov oM;refine sQ<|sQ<|dW [] [(0,2),(1,2),(2,2),(3,2),(4,2),(5,2),(6,2),(7,2),(8,1),(9,2),(10,2),(11,2),(12,1),(13,2),(14,2)] ze3 kR<|yM I<|yM I<|pU I (eN aG I)<|pU I (SU.eq (v':=vb true) (lS I I)<|ze2 vb<|zf8 hin)<|yM I<|yJ I<|yJ I<|zb2 I (gT I I I dC) (iA aG zT3 I I hb2 oM sL) dC<|SP.gq I (gT I I I dC) (eB iT3 I (za6 hov) (gE hkl) I) dC<|yJ I<|yJ I<|zb2 I (gT I I I dC) (iA aG zT3 I I hb1 oM sL) dC<|SP.gq I (gT I I I dC) (eB iT3 I (za6<|hv.mono hle) hgi I) dC<|zb2 I (gT I I I dC) (lS I I) dC<|pU I (wT I I)<|pN<|tN<|iP I (fun hc=>?_) (fun hc=>?_)
    ·refine kP (tN (bK (rG (lM I (yD I (lA I (nL (bN ?_))))))));exact ST.again (k+1) sB I I ⟨oM,by
      rw[tS hkl];intro y hy
      rcases zf3.1 hy with h | h
      ·exact htake y h
      ·simp at h; subst h; exact hc⟩ oM
    ·exact xI<|tX<|tX<|bX<|za8 k sB I I ⟨hk,htake,nX hstr hkl oM⟩
   ·exact sQ<|sQ<|dW [] [(0,2),(1,2),(2,2),(3,2),(4,2),(5,2),(6,2),(7,2),(8,1),(9,2),(10,2),(11,2),(12,1),(13,2),(14,2)] ze3 kR<|yM I<|yM I<|pU I (eN aG I)<|pU I (SU.eq (v':=vb false) (lS I I)<|ze2 vb<|zf7 hin)<|yM I<|yG I<|yG I<|yG I<|yI I<|yG I<|yG I<|yG I<|yI I<|yG I<|pU I (wF I I)<|pN<|tN<|cF I<|xI<|tX<|tX<|bX<|za8 k sB I I ⟨hk,htake,by rw[List.drop_eq_nil_of_le oM]; simp⟩
  ·rintro k ⟨hk,hk1,hk2⟩;have hskip:x∈out→∀ y,y∈out↔y∈l.take (i+1):=fun h y=>by
    rw[htk,zf3,← hmem];constructor
    ·exact .inl
    ·rintro (h' | h')
     ·exact h'
     ·simp at h'; rw[h']; exact h
   have hxneg:x∈out→(l.take<|i+1).any (fun x=>decide (x<0))=false:=fun h=>by
    have h1:=zk6.1 hneg x<|(hmem x).1 h;rw[htk,List.any_append,hneg];simpa using h1
   have hins:(∀ y∈out.drop k,x<y)→dI (out.take k++x::out.drop k)∧∀ y,y∈out.take k++x::out.drop k↔y∈l.take (i+1):=fun h=>⟨xJ hstr hk1 h,fun y=>by
    rw[yW,htk,zf3,← hmem];simp;exact or_comm⟩
   have hc1:=SlA.cut hov (l:=k) (m:=out.length) hk<|lR _;have hc2:=SlA.cut hov (l:=0) (m:=k) (zf6 _) hk;rw[tL (by rw[ze9]; exact lR _)] at hc1;rw[List.drop_zero,Nat.sub_zero] at hc2;have hnl:(out.take k++x::out.drop k).length=out.length+1:=lN;obtain ⟨nw,hnw⟩:∃ nw,nw=out.take k++x::out.drop k:=⟨_,rfl⟩;have hbad1:x<0→okS l=false:=fun h=>by
    unfold okS;have:l.any (fun x=>decide (x<0))=true:=zj8.2 ⟨x,hxm,by simpa using h⟩;rw[this]; rfl
   have hbad2:(∀ y∈out.drop k,x<y)→9<(out.take k++x::out.drop k).length→okS l=false:=fun h h'=>by
    obtain ⟨h1,h2⟩:=hins h;have h3:=zH h1 (b:=eo l) (fun y hy=>by rw[m7]; exact List.mem_of_mem_take<|(h2 y).1 hy);unfold okS;have:decide ((eo l).length≤9)=false:=zf7 oM;rw[this]; simp
   have hgo:∀ g3 q3 d3,(∀ y∈out.drop k,x<y)→Le g g3→dJ g3 (.slice q3 (out.take k++x::out.drop k).length d3) (out.take k++x::out.drop k)→¬ x<0→(out.take k++x::out.drop k).length≤9 →
     Le g g3∧dJ g3 (.slice q3 (out.take k++x::out.drop k).length d3) (out.take k++x::out.drop k)∧i+1≤l.length∧dI (out.take k++x::out.drop k)∧(∀ y,y∈out.take k++x::out.drop k↔y∈l.take (i+1))∧((l.take<|i+1).any (fun x=>decide (x<0))=false∧(out.take k++x::out.drop k).length≤9):=fun g3 q3 d3 h1 h2 h3 h4 h5 =>
    ⟨h2,h3,oM,(hins h1).1,(hins h1).2,by rw[htk,List.any_append,hneg]; simpa using h4,h5⟩
   have hgt:out.contains x=false→∀ y∈out.drop k,x<y:=fun h y hy=>by
    have h1:=hk2 y hy;have h2:y≠x:=fun e=>by
     have:out.contains x=true:=by rw[← e]; simpa using List.mem_of_mem_drop hy
     rw[h] at this; cases this
    omega
   have hgetk:(k:Int)<(out.length:Int)→out[((k:Nat):Int).toNat]?=some (out.getD k 0):=fun h=>by
    have h2:k<out.length:=oM;rw[show ((k:Nat):Int).toNat=k by omega,gE h2,zh1,gE h2]; rfl
   have hA:(k:Int)<(out.length:Int)→out.contains x=decide (out.getD k 0=x):=fun h=>by
    have h2:k<out.length:=oM;rw[zh1,gE h2,Option.getD_some,Bool.eq_iff_iff,zj6];constructor
    ·intro hm;have hm':x∈out:=by simpa using hm
     rw[← zj2 k out] at hm'
     rcases zf3.1 hm' with h3 | h3
     ·have:=hk1 x h3; omega
     ·have h4:=hk2 _ (by rw[zg6 h2]; exact List.mem_cons_self:out[k]∈out.drop k);have h5:=nX hstr h2 (Int.le_refl out[k]) x h3;omega
    ·intro e;rw[← e];simp
   have hB:¬ (k:Int)<(out.length:Int)→out.contains x=false:=fun h=>by
    rw[← zj7];intro hm;have hm':x∈out:=by simpa using hm
    rw[← zj2 k out,List.drop_eq_nil_of_le oM,zc6] at hm';have:=hk1 x hm';omega
   have hb2:=fun h=>za5 hov h;generalize out.getD k 0=yk at hgetk hA;obtain ⟨nl,hnl2⟩:∃ nl,nl=(out.take k++x::out.drop k).length:=⟨_,rfl⟩;have f1:x<0→(decide (x<0)||decide ((((out.take k++x::out.drop k).length:Nat):Int)>9))=true:=fun h=>by simp[h]
   have f2:¬ x<0→(decide (x<0)||decide ((((out.take k++x::out.drop k).length:Nat):Int)>9))=decide ((((out.take k++x::out.drop k).length:Nat):Int)>9):=fun h=>by simp only[h,decide_false,Bool.false_or]
   refine sQ<|SC.cutB 45 ((out.contains x)) ?_ ?_
   ·refine dW [] [(0,2),(1,2),(2,2),(3,2),(4,2),(5,2),(6,2),(7,2),(8,1),(9,2),(10,2),(11,2),(12,1),(13,2),(14,2)] ze3 kR<|yM I<|yM I<|pU I (eN aG I)<|pU I (lS I I)<|yM I<|SP.split ?_ ?_
    ·intro h35;exact yJ I<|yJ I<|zb2 I (gT I I I dC) (iA aG zT3 I I (hb2 oM) oM sL) dC<|SP.gq I (gT I I I dC) (eB iT3 I (za6 hov) (hgetk h35) I) dC<|yJ I<|yJ I<|zb2 I (gT I I I dC) (iA aG zT3 I I hb1 oM sL) dC<|SP.gq I (gT I I I dC) (eB iT3 I (za6<|hv.mono hle) hgi I) dC<|zb2 I (gT I I I dC) (eQ I I) dC<|pU I (wT I I)<|pN<|za9 (by (rw[hA h35]; rfl)) mI
    ·intro h35;exact yG I<|yG I<|yG I<|yI I<|yG I<|yG I<|yG I<|yI I<|yG I<|pU I (wF I I)<|pN<|za9 (by (rw[hB h35]; rfl)) mI
   refine iQ I (fun hthere=>?_) (fun hthere=>?_)
   ·have hxo:x∈out:=by simpa using hthere
    exact xI<|tX<|bX<|tN<|rG<|lM I<|yD I<|lA I<|nL<|ST.again (g1,_,out,i+1) sB I I ⟨hle,hov,lN,hstr,hskip hxo,hxneg hxo,h9⟩ lN
   ·have hg:=hgt hthere;refine kP<|tN<|sQ<|dW [8] [(0,2),(1,2),(2,2),(3,1),(5,2),(6,2),(7,2),(4,0),(8,0),(9,2)] ze3 kR<|yM I<|yM I<|pU I (iA aG zT3 I I hb1 oM sL)<|pK I (eB iT3 I (za6<|hv.mono hle) hgi I)<|yM I<|yM I<|pU I (SU.sliceL aG zT3 I I oM oM)<|SP.o I (bS sty22 I I I (ab ⟨I,trivial⟩) dC) dC (.inr iR) ?_;rintro _ _ _ ⟨b50,rfl,rfl,rfl⟩;refine SP.to (fun w hw=>At.litRow (e:=ae) (l:=[x]) (n:=0) hw I I dC) ?_;refine SP.o I (aQ (e:=ae) 0 sty22 I I I hc1 (by rw[ze9]; (first | with_reducible rfl | ((try dsimp only); (try simp only[ze5,ze8,zc4,ze7,ze4,ze9])<;>omega))) (by rw[ze9]; (first | with_reducible rfl | ((try dsimp only); (try simp only[ze5,ze8,zc4,ze7,ze4,ze9])<;>omega)))) dC (.inl dC) ?_;rintro v54 _ _ ⟨rfl,rfl⟩;refine pU I (aS I) (pN<|tN<|sQ<|fS fun g2 hle2 hs2=>?_);have hrest:dJ g2 v54 ([x]++out.drop k):=hs2;refine rG<|lW (bS sty22 I I I (ab trivial) dC) ?_;rintro _ _ _ ⟨b55,rfl,rfl,rfl⟩;refine SL.emptyRow 3 1 (some ⟨b55,0,none⟩)<|lM I<|lM I<|lU (SU.sliceH aG zT3 I I oM oM)<|lW (aQ (e:=ae) (l:=[]) 0 sty22 I I I (hc2.mono hle2) (by rw[ze4]; (first | with_reducible rfl | ((try dsimp only); (try simp only[ze5,ze8,zc4,ze7,ze4,ze9])<;>omega))) (by rw[ze4]; (first | with_reducible rfl | ((try dsimp only); (try simp only[ze5,ze8,zc4,ze7,ze4,ze9])<;>omega)))) ?_;rintro v59 _ _ ⟨rfl,rfl⟩;refine lM I<|lW (aQ (e:=ae) 0 sty22 I I I hrest lN lN) ?_;rintro v61 _ _ ⟨rfl,rfl⟩;refine aT I (fS fun g3 hle3 hs3=>?_);have hres:dJ g3 v61 (out.take k++x::out.drop k):=(by have h:dJ g3 v61 ([]++out.take k++([x]++out.drop k)):=hs3; simpa using h);refine SC.drop (s':=s) (.cons _<|.refl _) ?_;obtain ⟨q3,d3,rfl⟩:=za3 hres;refine SC.sub (f':=[(0,.slice p l.length c),(4,.slice q3 (out.take k++x::out.drop k).length d3),(5,vi i)]) sB ?_;refine SC.cutB 71 ((decide (x<0)||decide ((((out.take k++x::out.drop k).length:Nat):Int)>9))) ?_ ?_
    ·refine rG<|lM I<|lM I<|lU (iA aG zT3 I I hb1 oM sL)<|lK (eB iT3 I (za6<|hv.mono<|hle.trans<|hle2.trans hle3) hgi I)<|yL I<|lM I<|sP ?_ ?_
     ·intro h67;exact yA I<|yA I<|yA I<|yP I<|nL<|za9 (by (rw[f1 h67]; rfl)) mI
     ·intro h67;exact yC I<|lY I I I (eN aG I)<|lY I I I (gR I I)<|yF I<|nL<|za9 (by (rw[f2 h67]; rfl)) mI
    refine iQ I (fun hbad=>?_) (fun hbad=>?_)
    ·have hko:okS l=false:=by
      rw[zj4,zj6,zj6] at hbad
      rcases hbad with h | h
      ·exact hbad1 h
      ·exact hbad2 hg oM
     exact rZ<|lA I<|aT I<|rE<|bR<|tR<|tR<|bR<|tR<|ST.ret2 (.inl I) results94 I I ⟨I,hle.trans<|hle2.trans hle3,.inr ⟨hko,I⟩⟩
    ·rw[Bool.or_eq_false_iff,decide_eq_false_iff_not,decide_eq_false_iff_not] at hbad;exact kP<|bN<|tN<|rG<|lM I<|yD I<|lA I<|nL<|ST.again (g3,_,out.take k++x::out.drop k,i+1) sB I I (hgo g3 q3 d3 hg (hle.trans<|hle2.trans hle3) hres hbad.1 oM) lN
 ·have hii:l.take i=l:=tL oM;rw[hii] at hmem hneg;have hset:=Dg hstr hmem;have hok:okS l=true:=by unfold okS; rw[hneg,← hset]; simpa using h9
  exact xI<|tX<|tX<|bX<|tN<|sW I<|lA I<|aT I<|rE<|ST.ret2 (.inl I) results94 I I ⟨I,hle,.inl ⟨hok,_,I,by rw[← hset]; exact hov⟩⟩
end Go.Proofs.YtmmghffoakhheaaGreatDoor
