/- 5 -/
import Derived.Test.YtpmoadbbfobbcaaGreatDoorMe04
import Derived.Shelf.SlSortCmp.Whole1
set_option linter.unusedSimpArgs false
set_option linter.unusedVariables false
namespace Go.Proofs.YtpmoadbbfobbcaaGreatDoor
open _root_.Go.Proofs.Tryz _root_.Go.Proofs.YtpmoadbbfobbcaaGreatDoor.Tryz
open Go Go.Sy Go.Pl Go.Proofs
set_option maxRecDepth 100000
def az (tl:List Cl)(x:ak):List ak:=((ah tl x.cell).getD aJ).sides
def j8 (x:ak)(zl:List<|Int×Int)(r:ak):List<|Int×Int:=fQ zl r.cell<|x.sign * r.sign
def fz (i:Int)(ml:List<|Int×List Int)(r:ak):List<|Int×List Int:=ii ml r.cell i
def fU (tl:List Cl)(l:List ak):List<|Int×Int:=l.foldl (fun zl x=>(az tl x).foldl (j8 x) zl) []
def fu (tl:List Cl)(l:List ak):List<|Int×List Int:=l.zipIdx.foldl (fun ml p=>(az tl p.1).foldl (fz p.2) ml) []
def me (jl:List<|Int×List Int)(p:Int×List Int):List<|Int×List Int:=match p.2 with
 | [a,b]=>ii (ii jl a b) b a
 | _=>jl
def dU (ml:List<|Int×List Int):List<|Int×List Int:=ml.foldl me []
def jN (jl:List<|Int×List Int):List Int:=dfs (kE jl) (jl.length+1) 0 []
def bM (tl:List Cl)(c:Cl):Int :=
 if (fU tl c.sides).any (fun p=>decide<|p.2≠0) then 24
 else if (fu tl c.sides).any (fun p=>decide<|(p.2.length:Int)≠2) then 25
 else if ((jN<|dU<|fu tl c.sides).length:Int)≠c.sides.length then 25 else 0
def AOk (tl:List Cl)(c:Cl):Prop:=c.sides.length≤64∧(∀ x∈c.sides,x.sign=1∨x.sign = -1)∧∀ x∈c.sides,(az tl x).length≤64∧∀ r∈az tl x,r.sign=1∨r.sign = -1
variable {tl:List Cl}{l:List Int}{k i b:Nat}{c:Cl}{x:Int}
theorem rW {l:List ak}{x:ak}:fU tl (l++[x])=(az tl x).foldl (j8 x) (fU tl l):=by
 simp[fU,zj1]
theorem Dq {l:List ak}{x:ak}:fu tl (l++[x])=(az tl x).foldl (fz l.length) (fu tl l):=by
 simp[fu,List.zipIdx_append,zj1]
theorem tz {a b:Int}(c:a=1∨a = -1)(hb:b=1∨b = -1):a * b=1∨a * b = -1:=by
 rcases c with rfl | rfl <;> rcases hb with rfl | rfl <;> decide
theorem D3 (ml:List<|Int×List Int)(k x:Int):(ii ml k x).map Prod.fst=if ml.any (fun p=>decide<|p.1=k) then ml.map Prod.fst else ml.map Prod.fst++[k]:=by
 induction ml with
 | nil=>rfl
 | cons p r ih =>
  obtain ⟨a,l⟩:=p;simp only[ii];by_cases h:k=a
  ·subst h;simp
  ·have b:¬ a=k:=fun e=>h e.symm;rw[zg1 h];simp only[zg5,ih,List.any_cons,b,decide_false,Bool.false_or];split <;> simp
theorem BO {ml:List<|Int×List Int}(h:(ml.map Prod.fst).Nodup)(k x:Int):((ii ml k x).map Prod.fst).Nodup:=by
 rw[D3];split
 ·exact h
 ·rename_i d;rw[List.nodup_append];refine⟨h,by simp,fun a f b hb e=>d ?_⟩;simp at hb;subst hb;obtain ⟨p,hp,c⟩:=zf3.1 f;rw[zj9];exact⟨p,hp,by simp[c,e]⟩
theorem kX (tl:List Cl)(l:List ak):((fu tl l).map Prod.fst).Nodup:=by
 unfold fu;have a:∀ (q:List<|ak×Nat) (ml:List<|Int×List Int),(ml.map Prod.fst).Nodup→((q.foldl (fun ml p=>(az tl p.1).foldl (fz p.2) ml) ml).map Prod.fst).Nodup:=by
  intro q;induction q with
  | nil=>intro ml h;exact h
  | cons p t ih =>
   intro ml h;refine ih _ ?_;have b:∀ (q:List ak) (ml:List<|Int×List Int),(ml.map Prod.fst).Nodup→((q.foldl (fz p.2) ml).map Prod.fst).Nodup:=by
    intro q;induction q with
    | nil=>intro ml h;exact h
    | cons r t ih=>intro ml h;exact ih _<|BO h _ _
   exact b _ _ h
 exact a _ _ dO
theorem zo (ml:List<|Int×List Int)(k x:Int):(ii ml k x).length≤ml.length+1:=by
 induction ml with
 | nil=>simp[ii]
 | cons p r ih =>
  obtain ⟨a,l⟩:=p;simp only[ii];split <;> simp <;> omega
theorem yK {l:List ak}(h:∀ x∈l,(az tl x).length≤64):(fu tl l).length≤64 * l.length:=by
 have b:∀ (q:List<|ak×Nat) (ml:List<|Int×List Int),(∀ p∈q,(az tl p.1).length≤64)→(q.foldl (fun ml p=>(az tl p.1).foldl (fz p.2) ml) ml).length≤ml.length+64 * q.length:=by
  intro q;induction q with
  | nil=>intro ml _;simp
  | cons p t ih =>
   intro ml hq;have c:∀ (q:List ak) (ml:List<|Int×List Int),(q.foldl (fz p.2) ml).length≤ml.length+q.length:=by
    intro q;induction q with
    | nil=>intro ml;simp
    | cons r t ih =>
     intro ml;have d:=ih<|fz p.2 ml r;have e:=zo ml r.cell p.2;simp only[zi9,ze9];unfold fz at d ⊢;omega
   have f:=ih ((az tl p.1).foldl (fz p.2) ml) (fun p hp=>hq p<|by simp[hp]);have g:=c (az tl p.1) ml;have j:=hq p dO;simp only[zi9,ze9];omega
 have:=b l.zipIdx [] (fun p hp=>h p.1 (by
  obtain ⟨a,i⟩:=p;exact (List.mem_zipIdx hp).2.2 ▸ gM _))
 simpa [fu] using this
theorem yu {α:Type}(f:α→Int){k ms:List α}(n:∀ t∈k,t∈ms)(hp:(k.map f).Perm<|ms.map f)(hn:(ms.map f).Nodup):k.Perm ms:=by
 have g:∀ {l:List α},(l.map f).Nodup→∀ a∈l,∀ b∈l,f a=f b→a=b:=by
  intro l;induction l with
  | nil=>intro _ a m;simp at m
  | cons c t ih =>
   intro h a m b hb e;simp only[zg5,zk3] at h
   rcases zf2.1 m with rfl | i <;> rcases zf2.1 hb with rfl | j
   ·rfl
   ·exact absurd (zf3.2 ⟨b,j,e.symm⟩) h.1
   ·exact absurd (zf3.2 ⟨a,i,e⟩) h.1
   ·exact ih h.2 a i b j e
 refine (List.perm_ext_iff_of_nodup (List.Pairwise.of_map f (fun a b d e=>d<|by rw[e])<|hp.symm.nodup hn)<|List.Pairwise.of_map f (fun a b d e=>d<|by rw[e]) hn).2 fun c=>⟨n c,fun hc=>?_⟩;obtain ⟨o,p,q⟩:=zf3.1<|hp.symm.subset<|zf3.2 ⟨c,hc,rfl⟩;rw[← g hn o (n o p) c hc q];exact p
theorem ET (c:List<|Int×List Int)(a b x y:Int):y∈fD (ii c a b) x↔y∈fD c x∨(x=a∧y=b):=by
 rw[vO];split
 ·rename_i h;simp[h]
 ·rename_i h;simp[h]
theorem mc (ml:List<|Int×List Int)(x y:Int):y∈fD (dU ml) x↔∃ p∈ml,p.2=[x,y]∨p.2=[y,x]:=by
 have key:∀ (q:List<|Int×List Int) (e:List<|Int×List Int),y∈fD (q.foldl me e) x↔y∈fD e x∨∃ p∈q,p.2=[x,y]∨p.2=[y,x]:=by
  intro q;induction q with
  | nil=>intro e;simp
  | cons p t ih =>
   intro e;simp only[zi9,ih];have hp:y∈fD (me e p) x↔y∈fD e x∨(p.2=[x,y]∨p.2=[y,x]):=by
    obtain ⟨k,l⟩:=p;unfold me;dsimp only
    match l with
    | []=>simp
    | [_]=>simp
    | [a,b] =>
     simp only[ET,List.cons.injEq,and_true];constructor
     ·rintro ((h | ⟨c,d⟩) | ⟨c,d⟩)
      ·exact .inl h
      ·exact .inr<|.inl ⟨c.symm,d.symm⟩
      ·exact .inr<|.inr ⟨d.symm,c.symm⟩
     ·rintro (h | ⟨c,d⟩ | ⟨c,d⟩)
      ·exact .inl<|.inl h
      ·exact .inl<|.inr ⟨c.symm,d.symm⟩
      ·exact .inr ⟨d.symm,c.symm⟩
    | _::_::_::q=>simp
   rw[hp];constructor
   ·rintro ((h | h) | ⟨q,c,d⟩)
    ·exact .inl h
    ·exact .inr ⟨p,by simp,h⟩
    ·exact .inr ⟨q,by simp[c],d⟩
   ·rintro (h | ⟨q,c,d⟩)
    ·exact .inl<|.inl h
    ·rcases zf2.1 c with rfl | c
     ·exact .inl<|.inr d
     ·exact .inr ⟨q,c,d⟩
 unfold dU;rw[key];simp[fD]
theorem C8 {a b:List<|Int×List Int}(h:a.Perm b):(jN<|dU a).length=(jN<|dU b).length:=by
 have hr:∀ (a b:List<|Int×List Int),a.Perm b→∀ x,Rch (kE<|dU a) 0 x→Rch (kE<|dU b) 0 x:=by
  intro a b h x f;refine f.mono (fun u l hl y e=>⟨_,I,?_⟩) (fun _ _=>by simp[kE]);simp only[kE,zg8] at hl;subst hl;rw[mc] at e ⊢;obtain ⟨p,hp,g⟩:=e;exact⟨p,h.subset hp,g⟩
 have hc:∀ d:List (Int×List Int),oI d []<d.length+1:=fun d=>zk9<|zc6 _ _;have c:∀ (q:List<|Int×List Int) (x:Int),x∈jN (dU q)↔Rch (kE<|dU q) 0 x:=fun q x=>xz (cnt:=oI<|dU q) (fun v v' h=>j5 h) (lX _) (hc _) (by simp[kE]) x;refine List.Perm.length_eq ((List.perm_ext_iff_of_nodup (j4 _ _ _ _<|by simp)<|j4 _ _ _ _<|by simp).2 fun x=>?_);exact (c a x).trans<|Iff.trans ⟨hr a b h x,hr b a h.symm x⟩ (c b x).symm
variable (E:World)(g:PH)(s:Own)
theorem ze (v:Value)(tl:List Cl)(c:Cl)(r:Rc)(hv:Tab g v tl)(hc:an g c r)(p4:AOk tl c) :
  Ctr Tryz.prog E 127 #[v,rcv r] g s fun r g' s'=>r=vi (bM tl c)∧g=g'∧s=s':=by
 obtain ⟨b,mt,iv,rs,rfl,hb,hm,hI,l0⟩:=hv;obtain ⟨O,rd,B,rn,d⟩:=r;have d5:SlA encSide g (.slice B rn d) c.sides:=hc.2.2;have p5:rn=c.sides.length:=zc2 d5;have p6:rd=c.dim:=hc.2.1;subst p5 p6;obtain ⟨t8,p7,l1⟩:=p4;have p9:=fun h=>d5.based h;refine zb2 (args:=[pp b 0,rcv ⟨O,c.dim,B,c.sides.length,d⟩]) func127 I ntmps127 (bE I)<|rZ (bW (bO I) fun i=>?_);refine aT I<|rZ<|lW (Io) ?_;rintro _ _ _ ⟨mz,rfl,rfl,rfl⟩;refine lW (Io) ?_;rintro _ _ _ ⟨J,rfl,rfl,rfl⟩;refine lA I<|aT I<|lu (ι:=List (Int×Int)×Ms) (fun _=>[(3,pp i 0),(5,.map<|some mz),(6,.map<|some J)]) (fun _=>g) (fun q=>mp J (jR q.2)::mp mz (gH q.1)::pt i (bY #[vi O,vi c.dim,.slice B c.sides.length d] 61)::(gv q.2++s))
  (fun q=>q.1=fU tl c.sides∧iG q.2=fu tl c.sides∧∀ t∈q.2,t.2.2.length≤4096) ?_ ?_
 ·refine rZ<|lU (bj ap I aI I)<|lK (qL bg I<|cO 2 I I)<|lU (eN aW I)<|lM I<|tZ<|bK<|oP (ι:=Nat×List (Int×Int)×Ms) (fun q=>[(0,pp b 0),(3,pp i 0),(5,.map<|some mz),(6,.map<|some J),(21,.slice B c.sides.length d),(22,vi c.sides.length),(23,vi q.1)]) (fun _=>g)
   (fun q=>mp J (jR q.2.2)::mp mz (gH q.2.1)::pt i (bY #[vi O,vi c.dim,.slice B c.sides.length d] 61)::(gv q.2.2++s))
   (fun q=>q.1≤c.sides.length∧q.2.1=fU tl (c.sides.take q.1)∧iG q.2.2=fu tl (c.sides.take q.1)∧(∀ p∈q.2.1,-((64 * q.1:Nat):Int)≤p.2∧p.2≤((64 * q.1:Nat):Int))∧∀ t∈q.2.2,t.2.2.length≤64 * q.1) (fun q=>c.sides.length - q.1)
   (0,[],[]) sB rfl rfl ⟨zf7 _,by simp[fU],by simp[fu,iG],by simp,by simp⟩ ?_
  rintro ⟨k,d6,l2⟩ ⟨hk,C,b6,c5,W⟩;dsimp only at hk C b6 c5 W ⊢;refine rZ<|yL I<|tZ<|sQ<|iP I (fun q0=>?_) (fun q0=>?_)
  ·have d7:k<c.sides.length:=oM;have q1:=p9 oM;have q2:c.sides[((k:Nat):Int).toNat]?=some c.sides[k]:=bd d7;have l3:c.sides.take (k+1)=c.sides.take k++[c.sides[k]]:=tS d7;have l4:c.sides[k]∈c.sides:=gM d7;have m1:(c.sides.take k).length=k:=by simp;omega
   generalize c.sides[k]=y at *;obtain ⟨x,q3,u5,q4⟩:=dQ l0 iw y.cell;obtain ⟨xi,xd,xp,xn,xc⟩:=x;have b7:SlA encSide g (.slice xp xn xc)<|az tl y:=q4.2.2;have q5:xn=(az tl y).length:=zc2 b7;subst q5;have m2:=p7 y l4;obtain ⟨q6,m3⟩:=l1 y l4;generalize d8:az tl y=sy at b7 q6 m3;refine kP (tN<|sQ<|bK<|sW I<|lU (iA aW aV I I q1 oM sL)<|lK (iN iV aV I d5.rd q2)<|bW (aL zm1) fun b8=>?_);refine lA I<|oZ (sK 0 aV I I I I I sB)<|tZ<|sQ<|dW [] [(0,2),(1,2),(2,2),(3,1),(4,2),(5,1),(6,1),(7,2),(8,2),(9,2)] ze4 kR<|yM I<|pU I (nC I)<|pU I (bj uo I rm I)<|gB I (qL ru I<|ao.known hb I)<|pU I (bj dh I zT3 I)<|gB I (qL iT3 I<|cO 0 I I)<|gB I (SQ.eq (v':=rcv ⟨xi,xd,xp,sy.length,xc⟩) (H6 mty56 I I<|bo.known hm)<|by rw[q3,d8]) ?_;refine pU I (IJ ap I bg I I)<|pU I (eN aW I)<|yM I<|du<|tN<|bK ?_;refine oP (ι:=Nat×List (Int×Int)×Ms) (fun q=>[(0,pp b 0),(3,pp i 0),(5,.map<|some mz),(6,.map<|some J),(7,vi k),(8,pp b8 0),(21,.slice B c.sides.length d),(22,vi c.sides.length),(23,vi k),(35,.slice xp sy.length xc),(36,vi sy.length),(37,vi q.1)]) (fun _=>g)
    (fun q=>pt b8 (bY #[vi y.cell,vi y.sign] 87)::mp J (jR q.2.2)::mp mz (gH q.2.1)::pt i (bY #[vi O,vi c.dim,.slice B c.sides.length d] 61)::(gv q.2.2++s))
    (fun q=>q.1≤sy.length∧q.2.1=(sy.take q.1).foldl (j8 y) d6∧iG q.2.2=(sy.take q.1).foldl (fz k) (fu tl<|c.sides.take k)∧(∀ p∈q.2.1,-((64 * k+q.1:Nat):Int)≤p.2∧p.2≤((64 * k+q.1:Nat):Int))∧∀ t∈q.2.2,t.2.2.length≤64 * k+q.1) (fun q=>sy.length - q.1)
    (0,d6,l2) sB rfl rfl ⟨zf7 _,by simp,by simp[b6],by simpa using c5,by simpa using W⟩ ?_
   rintro ⟨j,X,ms⟩ ⟨hj,hz,R,b9,d9⟩;dsimp only at hj hz R b9 d9 ⊢;refine rZ<|yL I<|tZ<|sQ<|iP I (fun m4=>?_) (fun m4=>?_)
   ·have e0:j<sy.length:=oM;have q7:=b7.based oM;have n0:sy[((j:Nat):Int).toNat]?=some sy[j]:=bd e0;have n1:sy.take (j+1)=sy.take j++[sy[j]]:=tS e0;have n2:=m3 _<|gM e0;generalize sy[j]=z at *;obtain ⟨e1,Y,u,L,M,e4,e9,f7,f8,g9⟩:=HF ms z.cell;have c6:=f8 _ d9;have h0:=c6 _<|zg3 M;dsimp only at h0;have u6:=ns oM b9 z.cell;have u7:=tz m2 n2;refine SC.to (fun w hw=>g9 E g [pt b8<|bY #[vi y.cell,vi y.sign] 87,mp J<|jR ms,mp mz<|gH X,pt i<|bY #[vi O,vi c.dim,.slice B c.sides.length d] 61] s w hw) ?_;refine kP<|tN<|sQ<|bK<|rZ<|lU (iA aW aV I I q7 oM sL)<|lK (iN iV aV I b7.rd n0) (bW (aL zm1) fun u8=>?_);refine oZ (sK 0 aV I I I I I sB)<|tZ<|sW I<|lU (bj dh I zT3 I)<|lK (qL iT3 I<|cO 0 I I)<|lK (SQ.eq (v':=vi<|ff X z.cell) (H6 mty151 I I<|bo.own 3 I)<|mh X _)<|lU (bj dh I zT3 I)<|lK (qL iT3 I<|cO 1 I I)<|lU (bj dh I zT3 I)<|lK (qL iT3 I<|cO 0 I I)<|lU (Iz (m:=y.sign) (n:=z.sign) I I oM)<|lU (aD (m:=ff X z.cell) (n:=y.sign * z.sign) I I oM)<|lO (tn 3 mty151 I I I I) ?_;rintro _ _ _ ⟨rfl,rfl⟩;rw[ug];refine tZ<|SC.drawT 5 [10] [(0,2),(1,2),(2,1),(3,2),(4,2),(5,1),(6,1),(7,2),(8,0),(9,0),(10,0)] ze4 kR<|yM rfl<|pU rfl (bj dh rfl zT3 rfl)<|gB rfl (qL iT3 rfl<|cO 0 rfl rfl)<|yM rfl<|pU rfl (bj dh rfl zT3 rfl)<|gB rfl (qL iT3 rfl<|cO 0 rfl rfl)<|gB rfl (SQ.eq (H6 mty214 rfl rfl<|bo.own 2 rfl) e4)<|yM rfl<|mf rfl (bS sty43 rfl rfl rfl (ab sB) dC) dC (.inr<|by rintro _ _ _ ⟨q8,rfl,rfl,rfl⟩;exact⟨by exact zb9 _,(by exact .cons _<|List.take_sublist _ _)⟩) ?_;rintro _ _ _ ⟨q8,rfl,rfl,rfl⟩;refine mf I (Jl (Y+5) ((L++[(k:Int)]).flatMap encInt.enc) (L++[(k:Int)]).length sty43 I I I (tF M s) I ⟨I,trivial⟩ (by simp[encInt];rfl) dO lN lN) dC (.inr<|by rintro u' _ _ ⟨rfl,rfl⟩;exact⟨by exact zb9 _,(by exact kG _ _ _ _)⟩) ?_;rintro u' _ _ ⟨rfl,rfl⟩;refine H8 I (tn 2 mty214 I I I I) (.inl dC) ?_;rintro _ _ _ ⟨rfl,rfl⟩;refine du<|bN<|tN<|rG<|yD I<|lM I<|cp ?_;refine dR (s':=pt b8 (bY #[vi y.cell,vi y.sign] 87)::mp J (jR<|e1.set Y (z.cell,u',L++[(k:Int)]))::mp mz (gH<|fQ X z.cell<|y.sign * z.sign)::pt i (bY #[vi O,vi c.dim,.slice B c.sides.length d] 61)::(gv (e1.set Y (z.cell,u',L++[(k:Int)]))++s)) (by
     rw[← e9 u' k,← tE (v':=u') (l':=L++[(k:Int)]) M s];exact .cons _<|.refl _) ?_
    exact ct (j+1,fQ X z.cell (y.sign * z.sign),e1.set Y (z.cell,u',L++[(k:Int)])) sB I I ⟨lN,by rw[n1,zj1,← hz];rfl,by rw[n1,zj1,← R,f7];rfl,by
      have:=nD oM b9 z.cell (x:=y.sign * z.sign) oM;intro p hp;have:=this p hp;dsimp only at *;omega,fun t f=>by
      dsimp only at *
      rcases List.mem_or_eq_of_mem_set f with h | h
      ·have:=c6 t h;omega
      ·subst h;simp;omega⟩ lN
   ·refine xI<|tX<|tX<|bX<|bN<|tN<|rG<|yD I<|lM I<|cp ?_;have q9:sy.take j=sy:=tL oM;rw[q9] at hz R;refine dR (s':=mp J (jR ms)::mp mz (gH X)::pt i (bY #[vi O,vi c.dim,.slice B c.sides.length d] 61)::(gv ms++s)) (.cons _<|.refl _) ?_;exact ct (k+1,X,ms) sB I I ⟨lN,by rw[l3,rW,d8,← C];exact hz,by rw[l3,Dq,d8,m1];exact R,by
      intro p hp;have:=b9 p hp;dsimp only at *;omega,fun t f=>by have:=d9 t f;dsimp only at *;omega⟩ lN
  ·refine xI<|tX<|tX<|bX ?_;have r0:c.sides.take k=c.sides:=tL oM;rw[r0] at C b6;exact za9 (d6,l2) sB I I ⟨C,b6,fun t f=>by have:=W t f;omega⟩
 ·rintro ⟨X,ms⟩ ⟨hz,Z,a0⟩;dsimp only at hz Z a0 ⊢;refine cP (zk2 _ _ _) (IB fun g1 r1 r2=>?_);refine IB fun g2 n3 R=>?_;refine cP List.perm_middle.symm (SC.freezeRows fun g3 h3 h4=>?_);obtain ⟨n4,n5,a1,a2⟩:=r2.mono<|n3.trans h3;obtain ⟨S,D,a3,P⟩:=R.mono h3;have a4:=r1.trans<|n3.trans h3;have t9:ms.length≤4096:=by
   have h1:=yK (tl:=tl) (l:=c.sides) fun x hx=>(l1 x hx).1;rw[← Z] at h1;have h2:(iG ms).length=ms.length:=by simp[iG]
   omega
  refine sQ<|sW I<|lW (I4 underlying151 I a1) ?_;rintro _ _ _ ⟨it,rfl,rfl,rfl⟩;refine tZ<|bK<|oP (ι:=List MapEntry×List (Int×Value)) (fun _=>[(3,pp i 0),(6,.map<|some J),(64,pp it 0)]) (fun _=>g3)
   (fun q=>iter it mz n4 n5 q.1::pt i (bY #[vi O,vi c.dim,.slice B c.sides.length d] 61)::s)
   (fun q=>mC (gH X) n4 q.1 q.2∧∀ p∈q.2,p.2=vi 0) (fun q=>X.length - q.2.length) ([],[]) sB rfl rfl ⟨mC.nil _ _,by simp⟩ ?_
  rintro ⟨vis,vl⟩ ⟨n6,h5⟩;dsimp only at n6 h5 ⊢;refine rZ<|lW (I3 0 I I a1 a2 n6) ?_;rintro _ _ _ ⟨rfl,h6⟩
  rcases h6 with ⟨rfl,rfl,h7⟩ | ⟨e,pr,he,a5,r3,r4,c7,rfl,rfl⟩
  ·have C:(fU tl c.sides).any (fun p=>decide<|p.2≠0)=false:=by
    rw[zk6];intro p hp;rw[← hz] at hp;have:=h5 (p.1,vi p.2)<|h7.symm.subset<|zf3.2 ⟨p,hp,rfl⟩;simpa using this
   refine yX I<|tZ<|sQ<|za1 I<|xI<|tX<|tX<|bX<|tN<|sQ<|Jk (s':=pt i (bY #[vi O,vi c.dim,.slice B c.sides.length d] 61)::s) (.cons _<|.refl _)<|rG<|lW (Io) ?_;rintro _ _ _ ⟨mj,rfl,rfl,rfl⟩;refine bW (aL zeroValue214) fun F=>oZ (sK 0 sizeOf214 I I I I I sB)<|tZ<|sQ<|sW I<|lW (I4 underlying214 I a3) ?_;rintro _ _ _ ⟨T,rfl,rfl,rfl⟩;refine tZ<|bK<|oP (ι:=List MapEntry×List (Int×Value)×Ms×Ms) (fun _=>[(3,pp i 0),(13,pp F 0),(73,pp T 0)]) (fun _=>g3)
    (fun q=>iter T J S D q.1::pt F (bY #[.map<|some mj] 214)::mp mj (jR q.2.2.2)::pt i (bY #[vi O,vi c.dim,.slice B c.sides.length d] 61)::(gv q.2.2.2++s))
    (fun q=>mC (jR ms) S q.1 q.2.1∧q.2.1=jR q.2.2.1∧(∀ t∈q.2.2.1,t∈ms∧t.2.2.length=2)∧iG q.2.2.2=dU (iG q.2.2.1)∧∀ t∈q.2.2.2,t.2.2.length≤2 * q.2.2.1.length) (fun q=>ms.length - q.2.1.length) ([],[],[],[]) sB rfl rfl ⟨mC.nil _ _,rfl,by simp,rfl,by simp⟩ ?_
   rintro ⟨G,r5,vt,js⟩ ⟨a9,Q,c0,h8,h9⟩;dsimp only at a9 Q c0 h8 h9 ⊢;have u4:vt.length≤ms.length:=by have:=a9.len P;rw[Q] at this;simpa [jR] using this
   refine rZ<|lW (I3 0 I I a3 P a9) ?_;rintro _ _ _ ⟨rfl,c1⟩
   rcases c1 with ⟨rfl,rfl,c2⟩ | ⟨e2,u9,r6,r7,r8,r9,c9,rfl,rfl⟩
   ·have n7:(iG vt).Perm<|fu tl c.sides:=by
     rw[← Z];have hn:(ms.map fun t=>t.1).Nodup:=by
      have:=kX tl c.sides;rw[← Z] at this;simpa [iG,zi6,Function.comp_def] using this
     have h1:=c2.map Prod.fst;rw[Q] at h1;simp only[jR,zi6,Function.comp_def] at h1;exact (yu (fun t=>t.1) (fun t f=>(c0 t f).1) h1 hn).map _
    have d0:(fu tl c.sides).any (fun p=>decide<|(p.2.length:Int)≠2)=false:=by
     rw[zk6];intro p hp;obtain ⟨t,f,rfl⟩:=zf3.1<|n7.symm.subset hp;have:=(c0 t f).2;simp[this]
    have i0:∀ t∈js,t.2.2.length<1099511627776:=fun t f=>by
     have h1:=h9 t f;omega
    refine yX I (tZ<|sQ<|za1 I<|xI<|tX<|tX<|bX<|tN<|sQ<|Jk (.cons _<|.refl _)<|I2 fun g4 s2 n8=>?_);refine IB fun g5 o1 t0=>?_;refine cP List.perm_middle.symm (SC.freezeRows fun g6 i1 c3=>?_);refine rG<|lW (Io) ?_;rintro _ _ _ ⟨sm,rfl,rfl,rfl⟩;refine bW (aL zeroValue80) fun o2=>oZ (sK 0 sizeOf80 I I I I I ⟨I,trivial⟩) (zb5 fun g7 c4 d1=>?_);refine tZ (rZ<|bW (aL zeroValue137) fun p0=>?_);refine tZ (rZ<|lU (Ih I)<|oZ (sK 0 sizeOf137 I I I I I ⟨I,trivial⟩)<|zb5 fun g8 U d2=>?_);refine tZ<|rZ<|lK (qL isAgg137 I<|ao.known d2 I)<|lW (DO I I<|cQ.mk (cap:=[pp o2 0,pp F 0,pp p0 0]) call185<|AI E g8 o2 F p0 sm mj js (t0.mono<|i1.trans<|c4.trans U) (fun t f=>(c3 t f).mono<|c4.trans U) i0 (U _ _ d1) ((o1.trans<|i1.trans<|c4.trans U) _ _ n8) d2 ((iG js).length+1) 0 [] _ 0 (zk9<|zc6 _ _) I) ?_;rintro _ _ _ ⟨rfl,rfl⟩;refine tZ<|sQ<|rZ<|lK (qL isAgg80 I<|ao.known (U _ _ d1) I)<|lK (SQ.lenMap underlying80 I<|bo.own 0 I)<|lU (bj ap I aI I)<|lK (qL bg I<|cO 1 I I)<|lU (eN aW I)<|lU (nQ I I)<|tZ ?_;have i2:(iU<|dfs (kE<|iG js) ((iG js).length+1) 0 []).length=(jN<|dU<|fu tl c.sides).length:=by
     rw[← C8 n7,← h8];simp[iU,jN]
    rw[i2];have b0:=a4.trans<|s2.trans<|o1.trans<|i1.trans<|c4.trans U;refine iP I (fun N=>?_) (fun N=>?_)
    ·exact rZ<|aT I<|rE<|tR<|dR (s':=s) (.cons _<|.cons _<|.refl _)<|Iu b0<|za8 (.inl I) results127 I ⟨by unfold bM;rw[zg1<|by rw[C];exact Bool.false_ne_true,zg1<|by rw[d0];exact Bool.false_ne_true,zg2 N],I,I⟩
    ·exact kP<|tN<|rZ<|aT I<|rE<|dR (s':=s) (.cons _<|.cons _<|.refl _)<|Iu b0<|za8 (.inl I) results127 I ⟨by unfold bM;rw[zg1<|by rw[C];exact Bool.false_ne_true,zg1<|by rw[d0];exact Bool.false_ne_true,zg1 N],I,I⟩
   ·obtain ⟨⟨tk,tv,b1⟩,f,rfl⟩:=zf3.1 r7;have H:dA g3 tv b1:=h4 _ f;have v0:b1.length≤4096:=a0 _ f;obtain ⟨tp,tc,rfl⟩:=za4 H;refine yX I<|tZ<|sQ<|za2 I<|kP<|tN<|bK<|rZ<|lK (IL 0 I I a3 P r6 r8 r9)<|yX I<|aT I<|sQ<|sW I<|lU (eN aA I)<|lU (nQ I I)<|tZ<|iP I (fun b2=>?_) (fun b2=>?_)
    ·refine rZ<|aT I<|rE<|tR<|bR<|tR<|bR<|tR<|dR (s':=s) (.cons _<|.cons _<|.cons _<|.cons _<|List.sublist_append_right _ _)<|Iu a4 ?_;have b4:(fu tl c.sides).any (fun p=>decide<|(p.2.length:Int)≠2)=true:=by
      rw[← Z,zj9];exact⟨(tk,b1),zf3.2 ⟨_,f,I⟩,by simpa using b2⟩
     exact za8 (.inl I) results127 I ⟨by unfold bM;rw[zg1<|by rw[C];exact Bool.false_ne_true,zg2 b4],I,I⟩
    ·obtain ⟨a,A,rfl⟩:∃ a A,b1=[a,A]:=by
      match b1,b2 with
      | [],h=>exact absurd dO h
      | [_],h=>exact absurd dO h
      | [a,A],_=>exact⟨a,A,rfl⟩
      | _::_::_::q,h=>exact absurd (by simp only[ze9];omega) h
     have V:=za6 H dO;obtain ⟨b5,Y,u0,L,M,e4,e9,f7,f8,g9⟩:=HF js a;have d3:=f8 _ h9;have h0:=d3 _<|zg3 M;dsimp only at h0;refine kP<|tN<|sQ ?_;refine SC.to (fun w hw=>g9 E g3 [iter T J S D<|G++[e2],pt F<|bY #[.map<|some mj] 214,mp mj<|jR js,pt i<|bY #[vi O,vi c.dim,.slice B c.sides.length d] 61] s w hw) ?_;refine SC.drawT 4 [14] [(0,1),(1,2),(2,2),(3,1),(4,1),(5,2),(6,2),(7,1),(8,1),(9,2),(10,2),(11,1),(12,0),(13,0),(14,0)] ze4 kR<|gB I (qL isAgg214 I<|cO 1 I I)<|yM I<|pU I (iA aA zT3 I I V dC (show (0:Int)<((2:Nat):Int) by decide)) ?_;refine gB I (eB iT3 I (za7 H) (j:=0) I I)<|gB I (qL isAgg214 I<|cO 1 I I)<|yM I<|pU I (iA aA zT3 I I V dC (show (0:Int)<((2:Nat):Int) by decide)) ?_;refine gB I (eB iT3 I (za7 H) (j:=0) I I)<|gB I (SQ.eq (H6 mty214 I I<|bo.own 2 I) e4)<|yM I<|pU I (iA aA zT3 I I V dC (show (1:Int)<((2:Nat):Int) by decide)) ?_;refine gB rfl (eB iT3 rfl (za7 H) (j:=1) rfl rfl)<|mf rfl (bS sty43 rfl rfl rfl (ab sB) dC) dC (.inr<|by rintro _ _ _ ⟨t1,rfl,rfl,rfl⟩;exact⟨by exact zb9 _,(by exact .cons _<|List.take_sublist _ _)⟩) ?_;rintro _ _ _ ⟨t1,rfl,rfl,rfl⟩;refine mf I (Jl (Y+4) ((L++[A]).flatMap encInt.enc) (L++[A]).length sty43 I I I (tF M s) I ⟨I,trivial⟩ (by simp[encInt];rfl) dO lN lN) dC (.inr<|by rintro u1 _ _ ⟨rfl,rfl⟩;exact⟨by exact zb9 _,(by exact kG _ _ _ _)⟩) ?_;rintro u1 _ _ ⟨rfl,rfl⟩;refine H8 I (tn 2 mty214 I I I I) (.inl dC) ?_;rintro _ _ _ ⟨rfl,rfl⟩;refine du<|tN<|Jk (s':=[iter T J S D<|G++[e2],pt F<|bY #[.map<|some mj] 214,mp mj<|jR<|b5.set Y (a,u1,L++[A]),pt i<|bY #[vi O,vi c.dim,.slice B c.sides.length d] 61]++(gv (b5.set Y (a,u1,L++[A]))++s)) (by rw[← e9 u1 A,← tE (v':=u1) (l':=L++[A]) M s];exact .refl _) ?_;have p1:∀ t∈(b5.set Y (a,u1,L++[A])),t.2.2.length≤2 * vt.length+1:=fun t f=>(by rcases List.mem_or_eq_of_mem_set f with h | h;(have:=d3 t h;omega);(subst h;simp;omega));obtain ⟨i3,j1,u2,lw,a5,p2,t2,t3,t4,t5⟩:=HF (b5.set Y (a,u1,L++[A])) A;have d4:=t4 _ p1;have t6:=d4 _<|zg3 a5;dsimp only at t6;refine SC.to (fun w hw=>t5 E g3 [iter T J S D<|G++[e2],pt F<|bY #[.map<|some mj] 214,mp mj<|jR<|b5.set Y (a,u1,L++[A]),pt i<|bY #[vi O,vi c.dim,.slice B c.sides.length d] 61] s w hw) ?_;refine SC.drawT 4 [14] [(0,1),(1,2),(2,2),(3,1),(4,1),(5,2),(6,2),(7,1),(8,1),(9,2),(10,2),(11,1),(12,0),(13,0),(14,0)] ze4 kR ?_;refine gB I (qL isAgg214 I<|cO 1 I I)<|yM I<|pU I (iA aA zT3 I I V dC (show (1:Int)<((2:Nat):Int) by decide)) ?_;refine gB I (eB iT3 I (za7 H) (j:=1) I I)<|gB I (qL isAgg214 I<|cO 1 I I)<|yM I<|pU I (iA aA zT3 I I V dC (show (1:Int)<((2:Nat):Int) by decide)) ?_;refine gB I (eB iT3 I (za7 H) (j:=1) I I)<|gB I (SQ.eq (H6 mty214 I I<|bo.own 2 I) p2)<|yM I<|pU I (iA aA zT3 I I V dC (show (0:Int)<((2:Nat):Int) by decide)) ?_;refine gB rfl (eB iT3 rfl (za7 H) (j:=0) rfl rfl)<|mf rfl (bS sty43 rfl rfl rfl (ab sB) dC) dC (.inr<|by rintro _ _ _ ⟨p3,rfl,rfl,rfl⟩;exact⟨by exact zb9 _,(by exact .cons _<|List.take_sublist _ _)⟩) ?_;rintro _ _ _ ⟨p3,rfl,rfl,rfl⟩;refine mf I (Jl (j1+4) ((lw++[a]).flatMap encInt.enc) (lw++[a]).length sty43 I I I (tF a5 s) I ⟨I,trivial⟩ (by simp[encInt];rfl) dO lN lN) dC (.inr<|by rintro u3 _ _ ⟨rfl,rfl⟩;exact⟨by exact zb9 _,(by exact kG _ _ _ _)⟩) ?_;rintro u3 _ _ ⟨rfl,rfl⟩;refine H8 I (tn 2 mty214 I I I I) (.inl dC) ?_;rintro _ _ _ ⟨rfl,rfl⟩;refine du<|bN<|dR (s':=[iter T J S D<|G++[e2],pt F<|bY #[.map<|some mj] 214,mp mj<|jR<|i3.set j1 (A,u3,lw++[a]),pt i<|bY #[vi O,vi c.dim,.slice B c.sides.length d] 61]++(gv (i3.set j1 (A,u3,lw++[a]))++s)) (by rw[← t2 u3 a,← tE (v':=u3) (l':=lw++[a]) a5 s];exact .refl _) ?_;exact ct (G++[e2],r5++[(tk,.slice tp 2 tc)],vt++[(tk,.slice tp 2 tc,[a,A])],i3.set j1 (A,u3,lw++[a])) sB I I ⟨c9,by rw[Q];simp[jR],fun t j2=>by
       rcases zf4.1 j2 with h | h
       ·exact c0 t h
       ·simp at h;subst h;exact⟨f,I⟩,by rw[t3,f7,h8];simp[dU,iG,me],fun t j2=>by
       simp only[ze6,ze8]
       rcases List.mem_or_eq_of_mem_set j2 with h | h
       ·have:=d4 t h;omega
       ·subst h;simp;omega⟩ (by
       have:=c9.len P;simp only[jR,ze7,ze6,ze8] at this ⊢;omega)
  ·obtain ⟨zp,t7,rfl⟩:=zf3.1 a5;refine yX I<|tZ<|sQ<|za2 I<|kP<|tN<|bK<|rZ<|lK (IL 0 I I a1 a2 he r3 r4)<|yX I<|aT I<|sW I<|lU (nQ I I)<|tZ<|iP I (fun N=>?_) (fun N=>?_)
   ·refine rZ<|aT I<|rE<|bR<|tR<|bR<|tR<|dR (s':=s) (.cons _<|.cons _<|.refl _)<|Iu a4 ?_;have b4:(fU tl c.sides).any (fun p=>decide<|p.2≠0)=true:=by
     rw[← hz,zj9];exact⟨zp,t7,by simpa using N⟩
    exact za8 (.inl I) results127 I ⟨by unfold bM;rw[zg2 b4],I,I⟩
   ·refine kP<|bN ?_;exact ct (vis++[e],vl++[(zp.1,vi zp.2)]) sB I I ⟨c7,fun p hp=>by
     rcases zf4.1 hp with h | h
     ·exact h5 p h
     ·simp at h;subst h;have:zp.2=0:=by simpa using N
      simp[this]⟩ (by
     have:=c7.len a2;simp only[gH,ze7,ze6,ze8] at this ⊢;omega)
def iZ (tl:List Cl):List Cl→Int→Option (Int×Int)
 | [],_=>none
 | x::r,last=>if x.id≤last then some (x.id,20) else if dj tl x≠0 then some (x.id,dj tl x) else iZ tl r x.id
def oJ (tl:List Cl):List Cl→Option (Int×Int)
 | []=>none
 | x::r=>if x.dim>1∧bM tl x≠0 then some (x.id,bM tl x) else oJ tl r
def aq (l:List Cl):Int×Int:=if (l.length:Int)>4000 then (0,2) else (iZ (am l) (aa l) 0).getD<|(oJ (am l)<|aa l).getD (0,0)
theorem jr (h:dj tl c=0):c.sides.length≤64∧∀ x∈c.sides,x.sign=1∨x.sign = -1:=by
 unfold dj at h;split at h
 ·simp at h
 ·rename_i b;split at h
  ·simp at h
  ·rename_i a;split at h
   ·simp at h
   ·split at h
    ·simp at h
    ·rename_i d;refine⟨?_,fun x i=>?_⟩
     ·simp[gp] at b;simp[aY] at a
      rcases Int.lt_trichotomy c.dim 1 with h | h | h
      ·have:c.dim=0:=oM;have:=a.1.1 this;simp[this]
      ·have:=a.1.2 h;omega
      ·have:=a.2 h;omega
     ·have e:c.sides.any cj=false:=by simpa using d
      rw[zk6] at e;have f:=e x i;simp only[cj,zj4,zj6,ne_eq,not_and,Decidable.not_not] at f;by_cases g:x.sign=1
      ·exact .inl g
      ·exact .inr<|f g
theorem mR {tl:List Cl}:∀ {l:List Cl} {last:Int},iZ tl l last=none→∀ x∈l,dj tl x=0
 | [],_,_,x,a=>by simp at a
 | y::r,last,h,x,a=>by
  unfold iZ at h;split at h
  ·simp at h
  ·split at h
   ·simp at h
   ·rename_i b
    rcases zf2.1 a with rfl | a
    ·exact zh1 b
    ·exact mR h x a
theorem Cc {l:List Cl}(h:∀ x∈aa l,dj (am l) x=0)(hc:c∈aa l):AOk (am l) c:=by
 obtain ⟨a,b⟩:=jr<|h c hc;refine⟨a,b,fun x e=>?_⟩;unfold az;cases d:ah (am l) x.cell with
 | none=>simp[aJ]
 | some y=>exact jr<|h y<|tw (aC d).1
theorem nx (v:Value)(l:List Cl)(S:ai g v l)(R:aM l) :
  Ctr Tryz.prog E 75 #[.agg #[v]] g s fun r g' s'=>r = .tuple #[vi (aq l).1,vi (aq l).2]∧g=g'∧s=s':=by
 have L:=aF R;have a1:=R.1;obtain ⟨p,K,T⟩:=S.form;subst T;refine zb2 (args:=[.agg #[.slice p l.length K]]) func75 I ntmps75 (bE I)<|rZ (bW (bO I) fun M=>?_);refine lA I<|aT I<|sQ<|rZ<|lU (bj dw I cg I)<|lK (qL ei I<|cO 0 I I)<|lU (eN aB I)<|lU (gR I I)<|tZ<|iP I (fun n=>?_) (fun n=>?_)
 ·exact rZ<|lA I<|aT I<|rE<|tR<|dR (s':=s) uR<|Iq (.inl I) results75 I I ⟨by unfold aq;rw[zg2 n],I,I⟩
 ·refine kP<|tN<|rZ<|lK (qV 0 aj ae I I I)<|lW (bt call33 I<|oN E g _ _ l S R) ?_;rintro tv g1 _ ⟨rfl,z,ht⟩;refine aT I<|rZ<|lK (qV 0 aj ae I I I)<|lW (bt call24 I<|fm E g1 _ _ l (S.mono z) R) ?_;rintro _ g2 _ ⟨rfl,A,u,rfl,rs,o,t⟩;obtain ⟨q,d,rfl⟩:=o.form;refine lU (IJ dw I ei I I)<|lA I<|aT I<|sQ<|sW I<|lU (eN aB I)<|lM I<|tZ<|bK ?_;have f:aq l=(iZ (am l) (aa l) 0).getD ((oJ (am l)<|aa l).getD (0,0)):=by unfold aq;rw[zg1 n]
  have N:=ht.mono A;have a0:=t.length;have a2:=L.1;have j:=z.trans A;refine oP (ι:=Nat×Int) (fun i=>[(4,tv),(5,vi i.2),(6,.slice q rs.length d),(22,.slice q rs.length d),(23,vi rs.length),(24,vi i.1)]) (fun _=>g2)
   (fun _=>pt M (bY #[.slice p l.length K] 29)::s) (fun i=>i.1≤rs.length∧iZ (am l) (aa l) 0=iZ (am l) ((aa l).drop i.1) i.2) (fun i=>rs.length - i.1) (0,0)
   sB rfl rfl ⟨zf7 _,by simp⟩ ?_
  rintro ⟨k,last⟩ ⟨hk,b⟩;dsimp only at hk b ⊢;refine rZ<|yL I<|tZ<|sQ<|iP I (fun U=>?_) (fun U=>?_)
  ·have w:k<rs.length:=oM;have c:k<(aa l).length:=oM;have B:=o.based oM;have m:=t.get (bd c)<|bd w;have C:rs[((k:Nat):Int).toNat]?=some rs[k]:=bd w;have e:(aa l).drop k=(aa l)[k]::(aa l).drop (k+1):=zg7 c;have V:=L.2 _<|gM c;generalize rs[k]=x at *;generalize (aa l)[k]=cx at *;rw[e] at b;obtain ⟨W,xd,xv⟩:=x;have D:W=cx.id:=m.1;subst D;refine kP (tN<|sQ<|bK<|rZ<|lU (iA aB ar I I B oM sL)<|lK (iN dT ar I o.rd C)<|bW (aL zl6) fun b8=>?_);refine oZ (sK 0 ar I I I I I sB)<|tZ<|sQ<|rZ<|lU (bj ap I zT3 I)<|lK (qL iT3 I<|cO 0 I I)<|lM I<|lU (JG I I)<|tZ<|iP I (fun y=>?_) (fun y=>?_)
   ·refine rZ<|lU (bj ap I zT3 I)<|lK (qL iT3 I<|cO 0 I I)<|lA I<|aT I<|rE<|tR<|bR<|tR<|tR<|bR<|tR<|dR (s':=s) (.cons _<|.cons _<|.refl _)<|Iu j ?_;have F:aq l=(cx.id,20):=by rw[f,b];unfold iZ;rw[zg2 y];rfl
    exact Iq (.inl I) results75 I I ⟨by (rw[F];rfl),rfl,rfl⟩
   ·refine kP<|tN<|rZ<|lU (bj ap I zT3 I)<|lK (qL iT3 I<|cO 0 I I)<|aT I<|sW I<|lK (qV 0 dT ar I I I)<|lW (bt call126 I<|DJ E g2 _ tv (am l) cx _ N m V) ?_;rintro _ _ _ ⟨rfl,rfl,rfl⟩;refine aT I<|sW I<|lU (nQ I I)<|tZ<|iP I (fun G=>?_) (fun G=>?_)
    ·refine rZ<|lU (bj ap I zT3 I)<|lK (qL iT3 I<|cO 0 I I)<|lM I<|lA I<|aT I<|rE<|bR<|tR<|tR<|bR<|tR<|dR (s':=s) (.cons _<|.cons _<|.refl _)<|Iu j ?_;have F:aq l=(cx.id,dj (am l) cx):=by rw[f,b];unfold iZ;rw[zg1 y,zg2 G];rfl
     exact Iq (.inl I) results75 I I ⟨by (rw[F];rfl),rfl,rfl⟩
    ·exact kP<|bN<|tN<|rG<|yD I<|lM I<|cp<|dR (s':=pt M (bY #[.slice p l.length K] 29)::s) (.cons _<|.refl _)<|ct (k+1,cx.id) sB I I ⟨lN,by rw[b];rw[iZ,zg1 y,zg1 G]⟩ lN
  ·have X:(aa l).drop k=[]:=List.drop_of_length_le oM;rw[X] at b;have H:=mR b;refine xI<|tX<|tX<|bX<|tN<|sQ<|sW I<|lU (eN aB I)<|lM I<|tZ<|bK<|oP (ι:=Nat) (fun i=>[(4,tv),(45,.slice q rs.length d),(46,vi rs.length),(47,vi i)]) (fun _=>g2)
    (fun _=>pt M (bY #[.slice p l.length K] 29)::s) (fun i=>i≤rs.length∧oJ (am l) (aa l)=oJ (am l) ((aa l).drop i)) (fun i=>rs.length - i) 0
    sB rfl rfl ⟨zf7 _,by simp⟩ ?_
   rintro k ⟨hk,a⟩;try dsimp only
   refine rZ<|yL I<|tZ<|sQ<|iP I (fun O=>?_) (fun O=>?_)
   ·have w:k<rs.length:=oM;have c:k<(aa l).length:=oM;have B:=o.based oM;have m:=t.get (bd c)<|bd w;have C:rs[((k:Nat):Int).toNat]?=some rs[k]:=bd w;have e:(aa l).drop k=(aa l)[k]::(aa l).drop (k+1):=zg7 c;have Y:=gM c;have P:=Cc H Y;generalize rs[k]=x at *;generalize (aa l)[k]=cx at *;rw[e] at a;obtain ⟨W,xd,xv⟩:=x;have D:W=cx.id:=m.1;have Z:xd=cx.dim:=m.2.1;subst D Z;refine kP (tN<|sQ<|bK<|rZ<|lU (iA aB ar I I B oM sL)<|lK (iN dT ar I o.rd C)<|bW (aL zl6) fun a3=>?_);refine oZ (sK 0 ar I I I I I sB)<|tZ<|rZ<|lU (bj ap I zT3 I)<|lK (qL iT3 I<|cO 0 I I)<|lU (gR I I)<|tZ<|iP I (fun J=>?_) (fun J=>?_)
    ·refine sW I<|lK (qV 0 dT ar I I I)<|lW (bt call127 I<|ze E g2 _ tv (am l) cx _ N m P) ?_;rintro _ _ _ ⟨rfl,rfl,rfl⟩;refine aT I<|sW I<|lU (nQ I I)<|tZ<|iP I (fun G=>?_) (fun G=>?_)
     ·refine rZ<|lU (bj ap I zT3 I)<|lK (qL iT3 I<|cO 0 I I)<|lM I<|lA I<|aT I<|rE<|bR<|tR<|tR<|bR<|tR<|dR (s':=s) (.cons _<|.cons _<|.refl _)<|Iu j ?_;have F:aq l=(cx.id,bM (am l) cx):=by rw[f,b,a];unfold oJ;rw[zg2 ⟨J,G⟩];rfl
      exact Iq (.inl I) results75 I I ⟨by (rw[F];rfl),rfl,rfl⟩
     ·exact kP<|bN<|tN<|rG<|yD I<|lM I<|cp<|dR (s':=pt M (bY #[.slice p l.length K] 29)::s) (.cons _<|.refl _)<|ct (k+1) sB I I ⟨oM,by rw[a];rw[oJ,zg1 fun h=>G h.2]⟩ oM
    ·exact kP<|bN<|tN<|rG<|yD I<|lM I<|cp<|dR (s':=pt M (bY #[.slice p l.length K] 29)::s) (.cons _<|.refl _)<|ct (k+1) sB I I ⟨oM,by rw[a];rw[oJ,zg1 fun h=>J h.1]⟩ oM
   ·have Q:(aa l).drop k=[]:=List.drop_of_length_le oM;rw[Q] at a;refine xI<|tX<|tX<|bX<|tN<|rZ<|lA I<|aT I<|rE<|dR (s':=s) (.cons _<|.refl _)<|Iu j ?_;have F:aq l=(0,0):=by rw[f,b,a];rfl
    exact Iq (.inl I) results75 I I ⟨by (rw[F];done),I,I⟩
def lbI (l:List Int)(x:Int):Nat:=(l.filter fun y=>decide<|y<x).length
theorem HQ (f:i≤l.length)(c:∀ k (h:k<l.length),k<i→l[k]<x)(d:∀ k (h:k<l.length),i≤k→x≤l[k]):lbI l x=i:=by
 unfold lbI;have e:l=l.take i++l.drop i:=(zj3 i l).symm;rw[e,zh7];have f1:(l.take i).filter (fun y=>decide<|y<x)=l.take i:=by
  rw[List.filter_eq_self];intro y a;obtain ⟨k,b,rfl⟩:=zc8 a;simp at b;simpa using c k oM oM
 have f2:(l.drop i).filter (fun y=>decide<|y<x)=[]:=by
  rw[List.filter_eq_nil_iff];intro y a;obtain ⟨k,b,rfl⟩:=zc8 a;simp at b;have:=d (i+k) oM oM;simp only[List.getElem_drop];simp;omega
 rw[f1,f2];simp;omega
theorem E8 (d:l.Pairwise (· ≤ ·))(f:∀ k (h:k<l.length),k<i→l[k]<x)(g:∀ k (h:k<l.length),i≤k→x≤l[k])(a:i<l.length):decide (l[i]=x)=l.contains x:=by
 rw[Bool.eq_iff_iff];simp;constructor
 ·intro e;rw[← e];exact gM a
 ·intro hm;obtain ⟨k,c,e⟩:=zc8 hm;have b:i≤k:=by
   rcases Nat.lt_or_ge k i with h | h
   ·have:=f k c h;omega
   ·exact h
  have j:=g i a<|dm _
  rcases Nat.eq_or_lt_of_le b with rfl | h
  ·exact e
  ·have:=zd1.1 d i k a c h;omega
theorem EQ (a:∀ k (h:k<l.length),k<i→l[k]<x)(c:¬ i<l.length):l.contains x=false:=by
 rw[Bool.eq_false_iff];intro hm;simp at hm;obtain ⟨k,b,e⟩:=zc8 hm;have:=a k b oM;omega
def dK (n:Int):Int:=1 - 2 * (n % 2)
theorem xD (n:Int):IntKind.i64.wrap ((BitVec.ofInt IntKind.i64.bits n &&& BitVec.ofInt IntKind.i64.bits 1).toNat:Int)=n % 2:=by
 have a:(BitVec.ofInt 64 n &&& BitVec.ofInt 64 1).toNat=(n % 2).toNat:=by
  rw[BitVec.toNat_and,show (BitVec.ofInt 64 1).toNat=1 from rfl,Nat.and_one_is_mod,BitVec.toNat_ofInt];omega
 show IntKind.i64.wrap ((BitVec.ofInt 64 n &&& BitVec.ofInt 64 1).toNat:Int)=n % 2;rw[a,zl1 _ oM];omega
theorem C6 (n:Int):Ctr Tryz.prog E 53 #[vi n] g s fun r g' s'=>r=vi (dK n)∧g=g'∧s=s':=by
 exact zb2 (args:=[vi n]) func53 I ntmps53 (bE I)<|rZ<|aT I<|sW I<|lU (SU.eq (SU.and I I)<|ze3 vi<|xD n)<|lU (Iz I I oM)<|lU (sU I I oM)<|aT I<|rE<|za8 (.inl I) results53 I ⟨I,I,I⟩
theorem DK (l:List Cl):∀ acc:List Cl,∃ r,l.foldl gU acc=acc++r∧r.Sublist l:=by
 induction l with
 | nil=>intro acc;exact⟨[],by simp,.refl _⟩
 | cons c t ih =>
  intro acc;simp only[zi9];obtain ⟨r,a,b⟩:=ih<|gU acc c;unfold gU at a;unfold gU;split at a
  ·rename_i hc;rw[zg2 hc];exact⟨r,a,b.cons _⟩
  ·rename_i hc;rw[zg1 hc];exact⟨c::r,by rw[a];simp,b.cons_cons _⟩
theorem zz (l:List Cl):(am l).Sublist<|aa l:=by
 obtain ⟨r,a,b⟩:=DK (aa l) [];unfold am;rw[a];simpa using b
theorem s5 (l:List Cl):(aa l).map Cl.id=(sortBy Cl.id l).map Cl.id:=by
 unfold aa;rw[zi6];rfl
theorem jL (l:List Cl):((aa l).map Cl.id).Pairwise (· ≤ ·):=by
 rw[s5,zk5];exact c8 l
theorem eL (l:List Cl):((am l).map Cl.id).Pairwise (· ≤ ·):=(jL l).sublist<|(zz l).map _
def bc (tl ul:List Cl)(x y:Int):Int:=lbI (tl.map Cl.id) x * ul.length+lbI (ul.map Cl.id) y+1
theorem FG (l:List Int)(x:Int):lbI l x≤l.length:=zc6 _ _
theorem yx {a:Nat}(c:a≤4000)(hb:b≤4000):(a:Int) * (b:Int)≤16000000∧0≤(a:Int) * (b:Int):=by
 have:a * b≤4000 * 4000:=Nat.mul_le_mul c hb;have e:(a:Int) * (b:Int)=((a * b:Nat):Int):=by simp
 omega
theorem Tab.ptr {g:PH}{v:Value}(h:Tab g v tl):∃ b,v=pp b 0:=by
 obtain ⟨b,_,_,_,a,_⟩:=h;exact⟨b,a⟩
theorem DV {l:List Cl}(h:(aq l).2=0):l.length≤4000:=by
 unfold aq at h;split at h
 ·simp at h
 ·omega
theorem Tryz.buildE29 (w:World):(Instr.build 29 #[]).run Tryz.prog w = .ok (.agg #[.slice none 0 0]) w:=by
 simp[Instr.build,Instr.fill];rfl
theorem Tryz.buildC61 (x y:Int)(w:World):(Instr.build 61 #[(0,vi x),(1,vi y)]).run Tryz.prog w = .ok (.agg #[vi x,vi y,.slice none 0 0]) w:=by
 have hz:(Value.agg #[vi 0,vi 0,Value.slice none 0 0]).cells = #[vi 0,vi 0,.slice none 0 0]:=rfl;have a:∀ z:Int,(vi z).cells = #[vi z]:=fun _=>rfl;simp[Instr.build,Instr.fill,hz,a]
theorem Tryz.buildS87 (x y:Int)(w:World):(Instr.build 87 #[(0,vi x),(1,vi y)]).run Tryz.prog w = .ok (.agg #[vi x,vi y]) w:=by
 have hz:(Value.agg #[vi 0,vi 0]).cells = #[vi 0,vi 0]:=rfl;have a:∀ z:Int,(vi z).cells = #[vi z]:=fun _=>rfl;simp[Instr.build,Instr.fill,hz,a]
theorem jD {α β γ:Type}(l:List α)(m:List β)(f:α→β→γ):(l.flatMap fun x=>m.map<|f x).length=l.length * m.length:=by
 induction l with
 | nil=>simp
 | cons x t ih=>rw[zh6,ze6,ih,ze7,ze9,Nat.succ_mul];omega
theorem ya (n:Int):dK n=1∨dK n = -1:=by unfold dK;omega
def oL (a b:List Cl):Bool:=!decide ((aq a).2=0) || !decide ((aq b).2=0)||decide ((a.length:Int) * b.length>4000)
theorem A4 {a b:List Cl}(h:oL a b=false):(aq a).2=0∧(aq b).2=0∧(a.length:Int) * b.length≤4000:=by
 simp only[oL,Bool.or_eq_false_iff,Bool.not_eq_false',zj6,hP] at h;exact⟨h.1.1,h.1.2,oM⟩
theorem xC {tl:List Cl}:∀ {l:List Cl} {last:Int} {p:Int×Int},iZ tl l last=some p→p.2≠0
 | [],_,_,h=>by simp[iZ] at h
 | y::r,last,p,h=>by
  unfold iZ at h;split at h
  ·injection h with h;subst h;show (20:Int)≠0;decide
  ·split at h
   ·rename_i a;injection h with h;subst h;exact a
   ·exact xC h
theorem z8 (h:dj tl c=0):0≤c.dim∧c.dim≤8:=by
 unfold dj at h;split at h
 ·simp at h
 ·rename_i a;simp[gp] at a;omega
theorem ax (l:List Cl):(aa l).length=l.length:=by simp[aa,dF]
theorem jC (l:List Cl):(am l).length≤l.length:=by
 rw[← ax l];exact (zz l).length_le
def eu (tl ul:List Cl)(x y:Cl):Cl:=⟨bc tl ul x.id y.id,x.dim+y.dim,x.sides.map (fun q=>⟨bc tl ul q.cell y.id,q.sign⟩)++y.sides.map (fun q=>⟨bc tl ul x.id q.cell,dK x.dim * q.sign⟩)⟩
def ef (a b:List Cl):List Cl:=(aa a).flatMap fun x=>(aa b).map<|eu (am a) (am b) x
def FY (a b:List Cl):List Cl:=if oL a b then [] else if (aq<|ef a b).2=0 then aa (ef a b) else []
theorem Hw (v:Value)(l:List Int)(a:dA g v l)(hn:l.length<17592186044416) :
  Ctr Tryz.prog E 43 #[v] g s fun r g' s'=>g=g'∧s'=rowA encInt 3 r l::s:=by
 obtain ⟨p,c,rfl⟩:=za4 a;refine zb2 (args:=[.slice p l.length c]) func43 I ntmps43 (bE I)<|rZ<|aT I<|sQ<|sW I<|lU (Jz aA I I)<|tZ<|iQ I (fun hp=>?_) (fun hp=>?_)
 ·refine rZ<|aT I<|rE<|tR ?_;have hl:l=[]:=by
   cases l with
   | nil=>rfl
   | cons x r =>
    have hb:=za6 a dO;cases p with
    | none=>simp[based] at hb
    | some q=>simp at hp
  subst hl;exact I7 3 1<|za8 (.inl I) results43 I ⟨I,I⟩
 ·refine kP<|tN<|rZ<|lW (bS sty43 I I I (ab trivial) dC) ?_;rintro _ _ _ ⟨b,rfl,rfl,rfl⟩;refine Is 3 1 (some ⟨b,0,none⟩)<|lM I<|lW (IU (m:=l.length) 0 l.length (l.flatMap encInt.enc) sty43 I I I I I (Sl.rd a) (encInt.length l) (encInt.ones l) oM dO oM oM) ?_;rintro r7 _ _ ⟨rfl,rfl⟩;exact aT I<|rE<|dR (s':=rowA encInt 3 r7 l::s) (.cons_cons _<|.cons _<|.refl _)<|za8 (.inl I) results43 I ⟨I,I⟩
def orI:List Int→Int
 | []=>0
 | a::r=>if a≠0 then a else orI r
def iH:List Int→List Int→Int
 | [],[]=>0
 | [],_::_=>-1
 | _::_,[]=>1
 | a::r,b::t=>if iI a b≠0 then iI a b else iH r t
def aw (a b:List Int):Int:=if iI a.length b.length≠0 then iI a.length b.length else iH a b
theorem Cs (v:Value)(l:List Int)(m:Rd g s v<|l.flatMap encInt.enc)(n:∃ p c,v = .slice p l.length c)(hb:0<l.length→based v=true)(hl:l.length<1099511627776) :
  Ctr Tryz.prog E 83 #[v] g s fun r g' s'=>r=vi (orI l)∧g=g'∧s=s':=by
 obtain ⟨p,c,rfl⟩:=n;refine zb2 (args:=[.slice p l.length c]) func83 I ntmps83 (bE I)<|rZ<|aT I<|rZ<|aT I<|sQ<|sW I<|lU (eN aA I)<|lM I<|tZ<|bK<|oP (ι:=Nat) (fun k=>[(3,vi 0),(6,.slice p l.length c),(7,vi l.length),(8,vi k)]) (fun _=>g) (fun _=>s) (fun k=>k≤l.length∧orI l=orI (l.drop k)) (fun k=>l.length - k) 0
  sB rfl rfl ⟨zf7 _,by simp⟩ ?_
 rintro k ⟨o,a⟩;refine rZ<|yL I<|tZ<|sQ<|iP I (fun e=>?_) (fun e=>?_)
 ·have d:k<l.length:=oM;have f:=hb oM;have i:l[((k:Nat):Int).toNat]?=some l[k]:=bd d;have b:l.drop k=l[k]::l.drop (k+1):=zg7 d;generalize l[k]=x at *;rw[b] at a;refine kP<|tN<|sQ<|bK<|rZ<|lU (iA aA zT3 I I f oM sL)<|lK (eB iT3 I m i I)<|aT I<|sW I<|lM I<|lU (nQ I I)<|tZ<|iP I (fun hd=>?_) (fun hd=>?_)
  ·exact sW I<|aT I<|rE<|bR<|tR<|tR<|bR<|tR<|za8 (.inl I) results83 I ⟨by rw[a,orI,zg2 hd],I,I⟩
  ·exact kP<|bN<|tN<|rG<|yD I<|lM I<|cp<|ct (k+1) sB I I ⟨oM,by rw[a,orI,zg1 hd]⟩ oM
 ·refine xI<|tX<|tX<|bX<|tN<|sW I<|aT I<|rE ?_;have j:l.drop k=[]:=List.drop_of_length_le oM;rw[j] at a;exact za8 (.inl I) results83 I ⟨by rw[a];rfl,rfl,rfl⟩
theorem DP (v u:Value)(l m:List Int)(n:dA g v l)(o:dA g u m)(hl:l.length<1099511627776) :
  Ctr Tryz.prog E 50 #[v,u] g s fun r g' s'=>r=vb (decide<|l=m)∧g=g'∧s=s':=by
 obtain ⟨p,c,rfl⟩:=za4 n;obtain ⟨q,d,rfl⟩:=za4 o;refine zb2 (args:=[.slice p l.length c,.slice q m.length d]) func50 I ntmps50 (bE I)<|rZ<|aT I<|sQ<|sW I<|lU (eN aA I)<|lM I<|lU (eN aA I)<|lU (nQ I I)<|tZ<|iP I (fun a=>?_) (fun a=>?_)
 ·exact rZ<|aT I<|rE<|tR<|za8 (.inl I) results50 I ⟨by have:l≠m:=fun e=>a (by rw[e]);simp[this],I,I⟩
 ·refine kP<|tN<|sQ<|sW I<|lU (eN aA I)<|lM I<|tZ<|bK ?_;have b:l.length=m.length:=oM;refine oP (ι:=Nat) (fun k=>[(0,.slice p l.length c),(1,.slice q m.length d),(12,vi l.length),(13,vi k)]) (fun _=>g) (fun _=>s) (fun k=>k≤l.length∧l.take k=m.take k) (fun k=>l.length - k) 0
   sB rfl rfl ⟨zf7 _,by simp⟩ ?_
  rintro k ⟨z,f⟩;refine rZ<|yL I<|tZ<|sQ<|iP I (fun t=>?_) (fun t=>?_)
  ·have i:k<l.length:=oM;have j:k<m.length:=oM;have w:=za6 n oM;have x:=za6 o oM;refine kP<|tN<|sQ<|bK<|sW I<|aT I<|sQ<|dW [] [(0,2),(1,2),(2,2),(3,1),(4,2),(5,2),(6,2),(7,1),(8,2)] ze4 kR<|yM I<|yM I<|pU I (iA aA zT3 I I w oM sL)<|pQ I (eB iT3 I (za7 n) (bd i) I) dC ?_;refine yM I<|yM I<|pU I (iA aA zT3 I I x oM sL)<|pQ I (eB iT3 I (za7 o) (bd j) I) dC ?_;refine pU I (nQ I I)<|du<|tN<|iP I (fun hd=>?_) (fun hd=>?_)
   ·exact rZ<|aT I<|rE<|bR<|tR<|tR<|bR<|tR<|za8 (.inl I) results50 I ⟨by have:l≠m:=fun e=>hd (by simp[e]);simp[this],I,I⟩
   ·exact kP<|bN<|tN<|rG<|yD I<|lM I<|cp<|ct (k+1) sB I I ⟨oM,gL i j f<|zh1 hd⟩ oM
  ·refine xI<|tX<|tX<|bX<|tN<|rZ<|aT I<|rE ?_;have y:k=l.length:=oM;subst y;have:l=m:=iC b f;exact za8 (.inl I) results50 I ⟨by simp[this],I,I⟩
theorem yY (v u:Value)(l m:List Int)(n:dA g v l)(o:dA g u m)(hl:l.length<1099511627776) :
  Ctr Tryz.prog E 99 #[v,u] g s fun r g' s'=>r=vi (iH l m)∧g=g'∧s=s':=by
 obtain ⟨p,c,rfl⟩:=za4 n;obtain ⟨q,d,rfl⟩:=za4 o;refine zb2 (args:=[.slice p l.length c,.slice q m.length d]) func99 I ntmps99 (bE I)<|rZ<|aT I<|sQ<|sW I<|lU (eN aA I)<|lM I<|tZ<|bK<|oP (ι:=Nat) (fun k=>[(0,.slice p l.length c),(1,.slice q m.length d),(9,.slice p l.length c),(10,vi l.length),(11,vi k)]) (fun _=>g) (fun _=>s) (fun k=>k≤l.length∧k≤m.length∧iH l m=iH (l.drop k) (m.drop k)) (fun k=>l.length - k) 0
  sB rfl rfl ⟨zf7 _,zf7 _,by simp⟩ ?_
 rintro k ⟨H,G,a⟩;refine rZ<|yL I<|tZ<|sQ<|iP I (fun t=>?_) (fun t=>?_)
 ·have j:k<l.length:=oM;have w:=za6 n oM;have z:l[((k:Nat):Int).toNat]?=some l[k]:=bd j;have f:l.drop k=l[k]::l.drop (k+1):=zg7 j;generalize l[k]=x at *;rw[f] at a;refine kP<|tN<|sQ<|bK<|sW I<|lU (iA aA zT3 I I w oM sL)<|lK (eB iT3 I (za7 n) z I)<|lA I<|aT I<|sQ<|sW I<|lM I<|lU (eN aA I)<|lU (gQ I I)<|tZ<|iP I (fun A=>?_) (fun A=>?_)
  ·refine rZ<|aT I<|rE<|tR<|bR<|tR<|tR<|bR<|tR ?_;have i:m.drop k=[]:=List.drop_of_length_le oM;rw[i] at a;exact za8 (.inl I) results99 I ⟨by rw[a];rfl,rfl,rfl⟩
  ·have e:k<m.length:=oM;have B:=za6 o oM;have C:m[((k:Nat):Int).toNat]?=some m[k]:=bd e;have b:m.drop k=m[k]::m.drop (k+1):=zg7 e;generalize m[k]=y at *;rw[b] at a;refine kP<|tN<|sW I<|lM I<|lU (iA aA zT3 I I B oM sL)<|lK (eB iT3 I (za7 o) C I)<|aT I<|sW I<|lM I<|lW (bt call30 I<|dV E g _ x y) ?_;rintro _ _ _ ⟨rfl,rfl,rfl⟩;refine aT I<|sW I<|lU (nQ I I)<|tZ<|iP I (fun hd=>?_) (fun hd=>?_)
   ·exact sW I<|aT I<|rE<|bR<|tR<|tR<|bR<|tR<|za8 (.inl I) results99 I ⟨by rw[a,iH,zg2 hd],I,I⟩
   ·exact kP<|bN<|tN<|rG<|yD I<|lM I<|cp<|ct (k+1) sB I I ⟨oM,oM,by rw[a,iH,zg1 hd]⟩ oM
 ·refine xI<|tX<|tX<|bX<|tN<|sQ<|sW I<|lU (eN aA I)<|lM I<|lU (eN aA I)<|yL I<|tZ ?_;have D:l.drop k=[]:=List.drop_of_length_le oM;rw[D] at a;refine iP I (fun F=>?_) (fun F=>?_)
  ·refine rZ<|aT I<|rE<|tR ?_;have e:k<m.length:=oM;have b:m.drop k=m[k]::m.drop (k+1):=zg7 e;rw[b] at a;exact za8 (.inl I) results99 I ⟨by rw[a];rfl,rfl,rfl⟩
  ·refine kP<|tN<|rZ<|aT I<|rE ?_;have i:m.drop k=[]:=List.drop_of_length_le oM;rw[i] at a;exact za8 (.inl I) results99 I ⟨by rw[a];rfl,rfl,rfl⟩
theorem lV (v u:Value)(l m:List Int)(a:dA g v l)(b:dA g u m)(hl:l.length<1099511627776) :
  Ctr Tryz.prog E 48 #[v,u] g s fun r g' s'=>r=vi (aw l m)∧g=g'∧s=s':=by
 obtain ⟨p,c,rfl⟩:=za4 a;obtain ⟨q,d,rfl⟩:=za4 b;refine zb2 (args:=[.slice p l.length c,.slice q m.length d]) func48 I ntmps48 (bE I)<|rZ<|aT I<|sW I<|lU (eN aA I)<|lM I<|lU (eN aA I)<|lW (bt call30 I<|dV E g _ l.length m.length) ?_;rintro _ _ _ ⟨rfl,rfl,rfl⟩;refine lM I<|lM I<|lW (bt call99 I<|yY E g _ _ _ l m a b hl) ?_;rintro _ _ _ ⟨rfl,rfl,rfl⟩;refine lW (bS sty43 I I I (ab sB) dC) ?_;rintro _ _ _ ⟨e,rfl,rfl,rfl⟩;refine lW (bt call83 I<|Cs E g _ _ [iI l.length m.length,iH l m] (Rd.pt 0 I) ⟨_,_,I⟩ (fun _=>I) dO) ?_;rintro _ _ _ ⟨rfl,rfl,rfl⟩;exact aT I<|rE<|dR (s':=s) uR<|za8 (.inl I) results48 I ⟨by unfold aw;simp only[orI];split <;> simp_all,I,I⟩
def ep (g:PH)(l:List Int)(r:Sv):Prop:=dA g (.slice r.p r.n r.c) l
theorem ep.mono {g g':PH}(hl:Le g g'){r:Sv}(h:ep g l r):ep g' l r:=za5 h hl
theorem ep.len {g:PH}{r:Sv}(h:ep g l r):r.n=l.length:=(IK h).1
def dn (g:PH)(v:Value)(l:List<|List Int):Prop:=∃ rs,SlA ec g v rs∧ay (ep g) l rs
theorem dn.mono {g g':PH}{v:Value}{l:List<|List Int}(h:dn g v l)(hl:Le g g'):dn g' v l:=by
 obtain ⟨rs,a,b⟩:=h;exact⟨rs,a.mono hl,b.mono fun _ _=>ep.mono hl⟩
def fj (bits:Nat)(l:List Int):List Int:=(l.zipIdx.filter fun p=>bits / 2 ^ p.2 % 2 == 1).map (·.1)
def bU (l:List Int):List<|List Int:=(List.range<|2 ^ l.length - 1).map fun i=>fj (i+1) l
theorem Cp:∀ n,n<10→IntKind.i64.wrap (1 * 2 ^ min ((n:Nat):Int).toNat IntKind.i64.bits)=((2 ^ n:Nat):Int):=by decide
theorem Co (b k:Nat)(c:k<10):(((b:Nat):Int).fdiv<|2 ^ min ((k:Nat):Int).toNat IntKind.i64.bits) % 2=((b / 2 ^ k % 2:Nat):Int):=by
 have a:min ((k:Nat):Int).toNat IntKind.i64.bits=k:=by
  have:IntKind.i64.bits=64:=rfl;rw[this];omega
 rw[a,Int.fdiv_eq_ediv_of_nonneg _<|Int.le_of_lt<|Int.pow_pos dC];simp
theorem B6 (n:Nat)(h:n≤9):2 ^ n≤512:=by
 have:(2:Nat) ^ n≤2 ^ 9:=Nat.pow_le_pow_right dC h;simpa using this
theorem sh {bits:Nat}(h:k<l.length):fj bits (l.take<|k+1)=if bits / 2 ^ k % 2=1 then fj bits (l.take k)++[l[k]] else fj bits (l.take k):=by
 unfold fj;rw[tS h,List.zipIdx_append,zh7,zg6];have:(List.take k l).length=k:=by rw[ze5];omega
 rw[this];simp only[List.zipIdx_cons,List.zipIdx_nil,Nat.zero_add,zi8,List.filter_nil];by_cases hb:bits / 2 ^ k % 2=1
 ·simp[hb]
 ·simp[hb]
theorem gP (bits:Nat)(l:List Int):(fj bits l).length≤l.length:=by
 unfold fj;rw[ze7];have:=zc6 (fun p:Int×Nat=>bits / 2 ^ p.2 % 2 == 1) l.zipIdx;simpa using this
theorem wC (v:Value)(l:List Int)(y:dA g v l)(hl:l.length≤9) :
  Ctr Tryz.prog E 46 #[v] g s fun r g' s'=>s=s'∧Le g g'∧dn g' r (bU l):=by
 obtain ⟨p,c,rfl⟩:=za4 y;have J:=B6 l.length hl;refine zb2 (args:=[.slice p l.length c]) func46 I ntmps46 (bE I)<|rZ<|aT I<|rZ<|aT I<|sQ<|rZ<|aT I<|bK<|zb6 43 1<|oP (ι:=PH×Value×Nat×List Sv) (fun i=>[(0,.slice p l.length c),(3,i.2.1),(4,vi (i.2.2.1+1:Nat))]) (fun i=>i.1)
  (fun i=>rowA ec 43 i.2.1 i.2.2.2::s) (fun i=>Le g i.1∧i.2.2.1+1≤2 ^ l.length∧ay (ep i.1) ((List.range i.2.2.1).map fun j=>fj (j+1) l) i.2.2.2) (fun i=>2 ^ l.length - i.2.2.1)
  (g,.slice none 0 0,0,[]) sB rfl rfl ⟨zb9 g,Nat.one_le_two_pow,trivial⟩ ?_
 rintro ⟨g1,x,b,rs⟩ ⟨f,hb,a⟩;dsimp only at f hb a ⊢;have z:=a.length;simp only[ze7,zi5] at z;refine sQ<|sW I<|lM I<|lU (eN aA I)<|lU (SU.eq (v':=vi ((2 ^ l.length:Nat):Int)) (SU.shl I I oM)<|ze3 vi<|Cp l.length oM)<|yL I<|tZ<|iP I (fun A=>?_) (fun A=>?_)
 ·have B:b+1<2 ^ l.length:=oM;refine kP<|tN<|sQ<|bK<|rZ<|aT I<|sQ<|sQ<|zb6 3 1<|rG<|lM I<|lU (eN aA I)<|lM I<|tZ<|bK<|oP (ι:=Value×Nat) (fun i=>[(0,.slice p l.length c),(3,x),(4,vi (b+1:Nat)),(5,i.1),(15,.slice p l.length c),(16,vi l.length),(17,vi i.2)]) (fun _=>g1)
   (fun i=>rowA encInt 3 i.1 (fj (b+1)<|l.take i.2)::rowA ec 43 x rs::s) (fun i=>i.2≤l.length) (fun i=>l.length - i.2) (.slice none 0 0,0)
   sB rfl rfl (zf7 _) ?_
  rintro ⟨K,k⟩ M;dsimp only at M ⊢;have C:=gP (b+1)<|l.take k;rw[ze5] at C;refine rZ<|yL I<|tZ<|sQ<|iP I (fun o=>?_) (fun o=>?_)
  ·have t:k<l.length:=oM;have D:=za6 (y.mono f) oM;have m:=sh (bits:=b+1) t;refine kP<|tN<|sQ<|bK<|sW I<|lU (iA aA zT3 I I D oM sL)<|SL.q (eB iT3 I (za7<|y.mono f) (bd t) I) dC ?_;refine lA I<|aT I<|sW I<|lM I<|lU (I0 I I oM)<|lU (SU.eq (v':=vi (((b+1) / 2 ^ k % 2:Nat):Int)) (SU.and I I)<|ze3 vi<|(xD _).trans<|Co (b+1) k oM)<|yE I<|tZ<|iP I (fun u=>?_) (fun u=>?_)
   ·refine rG<|lM I<|lM I<|lW (bS sty43 I I I (ab sB) dC) ?_;rintro _ _ _ ⟨N,rfl,rfl,rfl⟩;refine lW (aP 0 l[k] sty43 I I I I I oM oM) ?_;rintro cv' _ _ ⟨rfl,rfl⟩;refine lA I<|cp<|bN<|tN<|rG<|yD I<|lM I<|cp ?_;refine ST.to (fun w F=>?_) (g':=g1) (s':=rowA encInt 3 cv' (fj (b+1)<|l.take<|k+1)::rowA ec 43 x rs::s) ?_
    ·rw[m,zg2 oM];exact F
    exact ct (cv',k+1) sB I I lN lN
   ·refine kP<|bN<|tN<|rG<|yD I<|lM I<|cp ?_;refine ST.to (fun w F=>?_) (g':=g1) (s':=rowA encInt 3 K (fj (b+1)<|l.take<|k+1)::rowA ec 43 x rs::s) ?_
    ·rw[m,zg1 oM];exact F
    exact ct (K,k+1) sB I I lN lN
  ·have G:l.take k=l:=tL oM;refine xI<|tX<|tX<|bX<|tN<|rG (zd6 fun g2 d n=>?_);rw[G] at n;obtain ⟨L,d2,rfl⟩:=za4 (e:=encInt) n;refine lM I<|lM I<|lW (bS sty22 I I I (ab sB) dC) ?_;rintro _ _ _ ⟨O,rfl,rfl,rfl⟩;refine lW (aP (e:=ec) 0 ⟨L,(fj (b+1) l).length,d2⟩ sty22 I I I I I oM oM) ?_;rintro ov' _ _ ⟨rfl,rfl⟩;refine lA I<|cp<|bN<|tN<|rG<|lM I<|yD I<|lA I<|cp ?_;exact ct (g2,ov',b+1,rs++[⟨L,(fj (b+1) l).length,d2⟩]) ⟨I,I,bP dO,trivial⟩ I I ⟨f.trans d,B,by
    dsimp only;rw[wb,zg6];exact (a.mono fun _ _=>ep.mono d).append ⟨n,trivial⟩⟩ lN
 ·refine xI (tX<|tX<|bX<|tN<|sW I<|aT I<|rE<|fT fun g2 d n=>?_);have H:b=2 ^ l.length - 1:=oM;exact za8 (.inl I) results46 I ⟨I,f.trans d,rs,n,by rw[H] at a;exact a.mono fun _ _=>ep.mono d⟩
def bn {α:Type}(eq:α→α→Bool):α→List α→List α
 | _,[]=>[]
 | x,y::r=>if eq y x then bn eq y r else y::bn eq y r
def je {α:Type}(eq:α→α→Bool):List α→List α
 | []=>[]
 | x::r=>x::bn eq x r
theorem jI {α:Type}(eq:α→α→Bool):∀ (x:α) (a:List α) (y:α) (r:List α),bn eq x (a++y::r)=bn eq x (a++[y])++bn eq y r
 | x,[],y,r=>by simp only[Ix,bn];split <;> simp
 | x,z::a,y,r=>by
  simp only[List.cons_append,bn];split
  ·exact jI eq z a y r
  ·rw[jI eq z a y r];rfl
theorem jA {α:Type}(eq:α→α→Bool)(a:List α)(y:α)(r:List α):je eq (a++y::r)=je eq (a++[y])++bn eq y r:=by
 cases a with
 | nil=>rfl
 | cons x a=>simp only[List.cons_append,je];rw[jI]
theorem mS {α:Type}(eq:α→α→Bool):∀ (x:α) (r:List α),(bn eq x r).length≤r.length
 | _,[]=>dm _
 | x,y::r=>by
  have:=mS eq y r;simp only[bn];split <;> simp <;> omega
theorem lx {α:Type}(eq:α→α→Bool)(l:List α):(je eq l).length≤l.length:=by
 cases l with
 | nil=>exact dm _
 | cons x r=>have:=mS eq x r;simp[je];exact this
theorem zG {α:Type}{l:List α}(h:k+1<l.length):∃ A x y R,l=A++x::y::R∧A.length=k:=by
 refine⟨l.take k,l[k],l[k+1],l.drop<|k+2,?_,by rw[ze5];omega⟩;have a:l.drop k=l[k]::l.drop (k+1):=zg7 oM;have b:l.drop (k+1)=l[k+1]::l.drop (k+2):=zg7 oM;rw[← b,← a,zj3]
theorem td {α:Type}(A:List α)(x:α)(R:List α):(A++x::R).take (A.length+1)=A++[x]:=by
 rw[List.take_append,tL oM];simp
theorem kT {α:Type}(eq:α→α→Bool){l:List α}(h:l.length<2):je eq l=l:=by
 match l,h with
 | [],_=>rfl
 | [a],_=>rfl
theorem oK {o n c l:Nat}(h:l<c):sliced (some ⟨b,o,none⟩) l n c k = .slice (some ⟨b,o+l * k,none⟩) (n - l) (c - l):=by
 have a:(⟨b,o,none⟩:Addr).add (l * k)=⟨b,o+l * k,none⟩:=by unfold Addr.add;split <;> simp_all
 simp only[sliced];rw[zg1 oM];simp[a]
theorem D8 {o n c:Nat}:sliced (some ⟨b,o,none⟩) 0 n c k = .slice (some ⟨b,o,none⟩) n c:=by
 have a:(⟨b,o,none⟩:Addr).add 0=⟨b,o,none⟩:=by unfold Addr.add;split <;> simp_all
 simp[sliced,a]
theorem te {α:Type}{e:Enc α k}{E:World}{g:PH}{s:Own}{w:World}{T:TypeId}{p:Option Addr}{c:Nat}{l:List α}(h:At E g s w)(d:s[i]?=some (rowA e T (.slice p l.length c) l))(m:0<l.length):∃ b cap,p=some ⟨b,0,none⟩∧c=cap+1∧l.length≤cap+1:=by
 obtain ⟨_,f⟩:=ia h d
 rcases f with ⟨q,_,n⟩ | ⟨b,cap,cur,j,_,a,_⟩
 ·omega
 ·injection j with e1 e2 e3
  exact⟨b,cap,e1,e3,a⟩
theorem Ff {α:Type}(t:Enc α 1)(val:α→Value)(d:∀ a,t.enc a=[val a])(Q:∀ a,(val a).cells = #[val a])(E:World)(g:PH)(s:Own)(v:Value)(fn:FuncId)(eq:α→α→Bool)(l:List α)(hl:l.length<1099511627776)
  (f:∀ a b s',cQ Tryz.prog E (.func (.func fn) #[] #[]) [val a,val b] g s' (fun r g' S=>r=vb (eq a b)∧g=g'∧s'=S)) :
  Ctr Tryz.prog E 49 #[v,.func (.func fn) #[] #[]] g (rowA t 43 v l::s) fun r g' s'=>g=g'∧s'=rowA t 43 r (je eq l)::s:=by
 refine Ji fun ⟨w0,B⟩=>?_;obtain ⟨p,c,rfl⟩:=ag (i:=0) B rfl;have H:=fun h=>te (i:=0) B rfl h;clear B w0;refine zb2 (args:=[.slice p l.length c,.func (.func fn) #[] #[]]) func49 I ntmps49 (bE I)<|rZ<|aT I<|sQ<|sW I<|lU (eN fe I)<|yL I<|tZ<|iP I (fun h2=>?_) (fun h2=>?_)
 ·exact sW I<|aT I<|rE<|tR<|za8 (.inl I) results49 I ⟨I,by rw[kT eq oM]⟩
 ·obtain ⟨b,cap,rfl,rfl,a3⟩:=H oM;refine kP<|tN<|sQ<|rZ<|aT I<|bK<|oP (ι:=Nat) (fun k=>[(0,.slice (some ⟨b,0,none⟩) l.length<|cap+1),(1,.func (.func fn) #[] #[]),(5,vi<|k+1)]) (fun _=>g) (fun _=>rowA t 43 (.slice (some ⟨b,0,none⟩) l.length<|cap+1) l::s) (fun k=>k+1≤l.length∧je eq (l.take<|k+1)=l.take (k+1)) (fun k=>l.length - k) 0
   sB rfl rfl ⟨oM,kT eq<|by rw[ze5];omega⟩ ?_
  rintro k ⟨hk,m⟩;refine sQ<|sW I<|lM I<|lU (eN fe I)<|yL I<|tZ<|iP I (fun T=>?_) (fun T=>?_)
  ·obtain ⟨A,x,y,R,e,hA⟩:=zG (l:=l) (k:=k) oM;have a4:l.length=k+2+R.length:=by rw[e];simp;omega
   have U:l[((k:Int)+1).toNat]?=some y:=by
    have V:l=(A++[x])++y::R:=by rw[e];simp
    rw[V];exact bV (by simp;omega)
   have W:l[((k:Int)+1 - 1).toNat]?=some x:=by rw[e];exact bV oM
   have X:l.take (k+1)=A++[x]:=by rw[e,← hA];exact td A x<|y::R
   rw[X] at m;refine kP<|tN<|sQ<|bK<|sQ<|dW [] [(0,2),(1,2),(2,2),(3,2),(4,1),(5,2),(6,2),(7,2),(8,2),(9,1),(10,0)] ze4 kR<|yM I<|yM I<|yM I<|pU I (iA fe gy I I I oM sL)<|gB I (eB iE I (zb7 0 I) U<|d _)<|yM I<|yM I<|pU I (sU I I oM)<|pU I (iA fe gy I I I oM sL)<|gB I (eB iE I (zb7 0 I) W<|d _)<|mf I (DO I I<|f _ _ _) dC (.inr iR) ?_;rintro _ _ _ ⟨rfl,rfl,rfl⟩;refine du<|tN<|iQ I (fun C=>?_) (fun C=>?_)
   ·have hU:je eq l=(A++[x])++bn eq y R:=by rw[e,jA,m];simp only[bn,C,if_true]
    refine sW I<|lM I<|lU (SU.eq (v':=.slice (some ⟨b,0+(k+1) * 1,none⟩) (l.length - (k+1))<|cap+1 - (k+1)) (Ik fe gy I I oM oM)<|by rw[show ((k:Int)+1).toNat=k+1 by omega];exact oK oM) ?_;refine aT I<|sQ<|rZ<|aT I<|bK ?_;refine oP (ι:=List α×List α×α×List α×Nat) (fun i=>[(0,.slice (some ⟨b,0,none⟩) l.length<|cap+1),(1,.func (.func fn) #[] #[]),(5,vi i.1.length),(6,.slice (some ⟨b,0+(k+1) * 1,none⟩) (l.length - (k+1))<|cap+1 - (k+1)),(7,vi i.2.2.2.2)]) (fun _=>g)
     (fun i=>rowA t 43 (.slice (some ⟨b,0,none⟩) l.length<|cap+1) (i.1++(i.2.1++[i.2.2.1])++i.2.2.2.1)::s)
     (fun i=>i.1.length+i.2.1.length=k+i.2.2.2.2∧1≤i.2.2.2.2∧je eq l=i.1++bn eq i.2.2.1 i.2.2.2.1∧i.1.length+i.2.1.length+1+i.2.2.2.1.length=l.length) (fun i=>i.2.2.2.1.length)
     (A++[x],[],y,R,1) ⟨rfl,rfl,bP lN,rfl,rfl,trivial⟩ rfl (by dsimp only;rw[e];simp) ⟨lN,dm _,hU,lN⟩ ?_
    rintro ⟨D,J0,z,R',n⟩ ⟨Y,Z,P,u⟩;dsimp only at Y Z P u ⊢;have a5:(D++(J0++[z])++R').length=l.length:=lN;refine sQ<|sW I<|lM I<|lU (eN fe I)<|yL I<|tZ<|iP I (fun L=>?_) (fun L=>?_)
    ·cases R' with
     | nil=>simp at u;omega
     | cons y' R2 =>
     simp only[ze9] at u;have M:((D++(J0++[z])++y'::R2).drop<|k+1)[((n:Nat):Int).toNat]?=some y':=by
      rw[zi3];exact bV lN
     have a0:((D++(J0++[z])++y'::R2).drop<|k+1)[((n:Nat):Int) - 1 |>.toNat]?=some z:=by
      rw[zi3,show D++(J0++[z])++y'::R2=(D++J0)++z::y'::R2 by simp];exact bV lN
     have F:∀ s',Rd g (rowA t 43 (.slice (some ⟨b,0,none⟩) l.length<|cap+1) (D++(J0++[z])++y'::R2)::s') (.slice (some ⟨b,0+(k+1) * 1,none⟩) (l.length - (k+1))<|cap+1 - (k+1)) (((D++(J0++[z])++y'::R2).drop<|k+1).flatMap t.enc):=fun s'=>by
      rw[Nat.zero_add];exact Rd.fromA<|zb7 0 I
     refine kP<|tN<|sQ<|bK<|sQ<|dW [] [(0,2),(1,2),(2,2),(3,2),(4,1),(5,2),(6,2),(7,2),(8,2),(9,1),(10,0),(11,2)] ze4 kR<|yM I<|yM I<|yM I<|pU I (iA fe gy I I I oM sL)<|gB I (eB iE I (F _) M<|d _)<|yM I<|yM I<|pU I (sU I I oM)<|pU I (iA fe gy I I I oM sL)<|gB I (eB iE I (F _) a0<|d _)<|mf I (DO I I<|f _ _ _) dC (.inr iR) ?_;rintro _ _ _ ⟨rfl,rfl,rfl⟩;refine pU I (oF I)<|du<|tN<|iQ I (fun G=>?_) (fun G=>?_)
     ·have N:eq y' z=false:=by simpa using G
      refine sW I<|lM I<|lM I<|lM I<|lU (iA fe gy I I I oM sL)<|lK (eB iE I (F _) M<|d _)<|lU (iA fe gy I I I oM sL)<|oZ (IM (a:=y') 0 gy I I I lN<|by rw[Q,d]) ?_;refine tZ<|rG<|lM I<|yD I<|lA I<|cp<|bN<|tN<|rG<|lM I<|yD I<|lA I<|cp ?_;have q:∃ J',(D++(J0++[z])++y'::R2).set ((D.length:Nat):Int).toNat y'=(D++[y'])++(J'++[y'])++R2∧J'.length=J0.length:=by
       cases J0 with
       | nil=>exact⟨[],by rw[show D++([]++[z])++y'::R2=D++z::y'::R2 by simp,ee oM];simp,rfl⟩
       | cons j J1=>exact⟨J1++[z],by rw[show D++(j::J1++[z])++y'::R2=D++j::(J1++[z]++y'::R2) by simp,ee oM];simp,by simp⟩
      obtain ⟨J',q,a9⟩:=q;refine ST.to (fun w O=>?_) (g':=g) (s':=rowA t 43 (.slice (some ⟨b,0,none⟩) l.length<|cap+1) ((D++[y'])++(J'++[y'])++R2)::s) ?_
      ·rw[← q];exact O
      exact ct (D++[y'],J',y',R2,n+1) ⟨I,I,bP lN,I,I,trivial⟩ I I ⟨lN,lN,by rw[P];simp only[bn,N];simp,lN⟩ lN
     ·have a1:eq y' z=true:=by simpa using G
      refine kP<|bN<|tN<|rG<|lM I<|yD I<|lA I<|cp ?_;refine ST.to (fun w O=>?_) (g':=g) (s':=rowA t 43 (.slice (some ⟨b,0,none⟩) l.length<|cap+1) (D++((J0++[z])++[y'])++R2)::s) ?_
      ·rw[show D++((J0++[z])++[y'])++R2=D++(J0++[z])++y'::R2 by simp];exact O
      exact ct (D,J0++[z],y',R2,n+1) sB I I ⟨lN,lN,by rw[P];simp only[bn,a1];simp,lN⟩ lN
    ·have hR:R'=[]:=zf5 oM;subst hR;simp only[zc5] at u;refine xI<|tX<|tX<|bX<|tN<|rZ<|SL.to (fun w O=>At.shrink (i:=0) (D:=D) (J:=J0++[z]) O (by rw[zc7];rfl) rfl) ?_;refine lM I<|lM I<|lU (SU.eq (v':=.slice (some ⟨b,D.length * 1,none⟩) (l.length - D.length)<|cap+1 - D.length) (Ik fe gy I I oM oM)<|by rw[Int.toNat_natCast,oK oM,Nat.zero_add])<|lO (SO.clearA (D:=D) 0 sty22 (m6 (l:=[.slice none 0 0]) ⟨I,trivial⟩) I I I oM) ?_;rintro _ _ _ ⟨rfl,rfl⟩;refine tZ<|sW I<|lM I<|lU (SU.eq (v':=.slice (some ⟨b,0,none⟩) D.length<|cap+1) (Il fe gy I I oM oM)<|by rw[Int.toNat_natCast];exact D8) ?_;refine aT I<|rE<|bR<|tR<|tR<|bR<|tR ?_;exact za8 (.inl I) results49 I ⟨I,by rw[P];simp[bn]⟩
   ·refine kP<|bN<|tN<|rG<|lM I<|yD I<|lA I<|cp ?_;exact ct (k+1) ⟨I,I,bP oM,trivial⟩ I I ⟨oM,by
     have V:l=(A++[x])++y::R:=by rw[e];simp
     have h4:l.take (k+1+1)=(A++[x])++[y]:=by
      rw[V,show k+1+1=(A++[x]).length+1 by simp;omega];exact td _ y R
     rw[h4,show (A++[x])++[y]=A++x::[y] by simp,jA,m];simp[bn,C]⟩ oM
  ·have a2:k+1=l.length:=oM;rw[a2,tL<|dm _] at m;exact xI<|tX<|tX<|bX<|tN<|sW I<|aT I<|rE<|za8 (.inl I) results49 I ⟨I,by rw[m]⟩
theorem Fg (v:Value)(l:List Int)(hl:l.length<17592186044416) :
  Ctr Tryz.prog E 45 #[v] g (rowA encInt 3 v l::s) fun r g' s'=>g=g'∧s'=rowA encInt 3 r (je (fun a b:Int=>decide<|a=b) l)::s:=by
 refine Ji fun ⟨Z,o⟩=>?_;obtain ⟨p,c,rfl⟩:=ag (i:=0) o rfl;have B:=fun h=>te (i:=0) o rfl h;clear o Z;refine zb2 (args:=[.slice p l.length c]) func45 I ntmps45 (bE I)<|rZ<|aT I<|sQ<|sW I<|lU (eN aA I)<|yL I<|tZ<|iP I (fun h2=>?_) (fun h2=>?_)
 ·exact sW I<|aT I<|rE<|tR<|za8 (.inl I) results45 I ⟨I,by rw[kT (fun a b:Int=>decide<|a=b) oM]⟩
 ·obtain ⟨b,cap,rfl,rfl,X⟩:=B oM;refine kP<|tN<|sQ<|rZ<|aT I<|bK<|oP (ι:=Nat) (fun k=>[(0,.slice (some ⟨b,0,none⟩) l.length<|cap+1),(3,vi<|k+1)]) (fun _=>g) (fun _=>rowA encInt 3 (.slice (some ⟨b,0,none⟩) l.length<|cap+1) l::s) (fun k=>k+1≤l.length∧je (fun a b:Int=>decide<|a=b) (l.take<|k+1)=l.take (k+1)) (fun k=>l.length - k) 0
   sB rfl rfl ⟨oM,kT (fun a b:Int=>decide<|a=b)<|by rw[ze5];omega⟩ ?_
  rintro k ⟨hk,e⟩;refine sQ<|sW I<|lM I<|lU (eN aA I)<|yL I<|tZ<|iP I (fun M=>?_) (fun M=>?_)
  ·obtain ⟨A,x,y,R,d,hA⟩:=zG (l:=l) (k:=k) oM;have Y:l.length=k+2+R.length:=by rw[d];simp;omega
   have N:l[((k:Int)+1).toNat]?=some y:=by
    have O:l=(A++[x])++y::R:=by rw[d];simp
    rw[O];exact bV (by simp;omega)
   have P:l[((k:Int)+1 - 1).toNat]?=some x:=by rw[d];exact bV oM
   have Q:l.take (k+1)=A++[x]:=by rw[d,← hA];exact td A x<|y::R
   rw[Q] at e;refine kP<|tN<|sQ<|bK<|sQ<|dW [] [(0,2),(1,2),(2,2),(3,1),(4,2),(5,2),(6,2),(7,2),(8,1),(9,2)] ze4 kR<|yM I<|yM I<|pU I (iA aA zT3 I I I oM sL)<|gB I (eB iT3 I (zb7 0 I) N I)<|yM I<|yM I<|pU I (sU I I oM)<|pU I (iA aA zT3 I I I oM sL)<|gB I (eB iT3 I (zb7 0 I) P I)<|pU I (eQ I I)<|du<|tN<|iQ I (fun q=>?_) (fun q=>?_)
   ·have hU:je (fun a b:Int=>decide<|a=b) l=(A++[x])++bn (fun a b:Int=>decide<|a=b) y R:=by rw[d,jA,e];simp only[bn,q,if_true]
    refine sW I<|lM I<|lU (SU.eq (v':=.slice (some ⟨b,0+(k+1) * 1,none⟩) (l.length - (k+1))<|cap+1 - (k+1)) (Ik aA zT3 I I oM oM)<|by rw[show ((k:Int)+1).toNat=k+1 by omega];exact oK oM) ?_;refine aT I<|sQ<|rZ<|aT I<|bK ?_;refine oP (ι:=List Int×List Int×Int×List Int×Nat) (fun i=>[(0,.slice (some ⟨b,0,none⟩) l.length<|cap+1),(3,vi i.1.length),(4,.slice (some ⟨b,0+(k+1) * 1,none⟩) (l.length - (k+1))<|cap+1 - (k+1)),(5,vi i.2.2.2.2)]) (fun _=>g)
     (fun i=>rowA encInt 3 (.slice (some ⟨b,0,none⟩) l.length<|cap+1) (i.1++(i.2.1++[i.2.2.1])++i.2.2.2.1)::s)
     (fun i=>i.1.length+i.2.1.length=k+i.2.2.2.2∧1≤i.2.2.2.2∧je (fun a b:Int=>decide<|a=b) l=i.1++bn (fun a b:Int=>decide<|a=b) i.2.2.1 i.2.2.2.1∧i.1.length+i.2.1.length+1+i.2.2.2.1.length=l.length) (fun i=>i.2.2.2.1.length)
     (A++[x],[],y,R,1) ⟨rfl,bP lN,rfl,rfl,trivial⟩ rfl (by dsimp only;rw[d];simp) ⟨lN,dm _,hU,lN⟩ ?_
    rintro ⟨D,J0,z,R',n⟩ ⟨S,T,L,m⟩;dsimp only at S T L m ⊢;have a0:(D++(J0++[z])++R').length=l.length:=lN;refine sQ<|sW I<|lM I<|lU (eN aA I)<|yL I<|tZ<|iP I (fun C=>?_) (fun C=>?_)
    ·cases R' with
     | nil=>simp at m;omega
     | cons y' R2 =>
     simp only[ze9] at m;have F:((D++(J0++[z])++y'::R2).drop<|k+1)[((n:Nat):Int).toNat]?=some y':=by
      rw[zi3];exact bV lN
     have U:((D++(J0++[z])++y'::R2).drop<|k+1)[((n:Nat):Int) - 1 |>.toNat]?=some z:=by
      rw[zi3,show D++(J0++[z])++y'::R2=(D++J0)++z::y'::R2 by simp];exact bV lN
     have t:∀ s',Rd g (rowA encInt 3 (.slice (some ⟨b,0,none⟩) l.length<|cap+1) (D++(J0++[z])++y'::R2)::s') (.slice (some ⟨b,0+(k+1) * 1,none⟩) (l.length - (k+1))<|cap+1 - (k+1)) (((D++(J0++[z])++y'::R2).drop<|k+1).flatMap encInt.enc):=fun s'=>by
      rw[Nat.zero_add];exact Rd.fromA<|zb7 0 I
     refine kP<|tN<|sQ<|bK<|sQ<|dW [] [(0,2),(1,2),(2,2),(3,1),(4,2),(5,2),(6,2),(7,2),(8,1),(9,2)] ze4 kR<|yM I<|yM I<|pU I (iA aA zT3 I I I oM sL)<|gB I (eB iT3 I (t _) F I)<|yM I<|yM I<|pU I (sU I I oM)<|pU I (iA aA zT3 I I I oM sL)<|gB I (eB iT3 I (t _) U I)<|pU I (nQ I I)<|du<|tN<|iQ I (fun u=>?_) (fun u=>?_)
     ·have G:decide (y'=z)=false:=by simpa using u
      refine sW I<|lM I<|lM I<|lM I<|lU (iA aA zT3 I I I oM sL)<|lK (eB iT3 I (t _) F I)<|lU (iA aA zT3 I I I oM sL)<|oZ (IM (a:=y') 0 zT3 I I I lN I)<|tZ<|rG<|lM I<|yD I<|lA I<|cp<|bN<|tN<|rG<|lM I<|yD I<|lA I<|cp ?_;have f:∃ J',(D++(J0++[z])++y'::R2).set ((D.length:Nat):Int).toNat y'=(D++[y'])++(J'++[y'])++R2∧J'.length=J0.length:=by
       cases J0 with
       | nil=>exact⟨[],by rw[show D++([]++[z])++y'::R2=D++z::y'::R2 by simp,ee oM];simp,rfl⟩
       | cons j J1=>exact⟨J1++[z],by rw[show D++(j::J1++[z])++y'::R2=D++j::(J1++[z]++y'::R2) by simp,ee oM];simp,by simp⟩
      obtain ⟨J',f,a1⟩:=f;refine ST.to (fun w H=>?_) (g':=g) (s':=rowA encInt 3 (.slice (some ⟨b,0,none⟩) l.length<|cap+1) ((D++[y'])++(J'++[y'])++R2)::s) ?_
      ·rw[← f];exact H
      exact ct (D++[y'],J',y',R2,n+1) ⟨I,bP lN,I,I,trivial⟩ I I ⟨lN,lN,by rw[L];simp only[bn,G];simp,lN⟩ lN
     ·have V:decide (y'=z)=true:=by simpa using u
      refine kP<|bN<|tN<|rG<|lM I<|yD I<|lA I<|cp ?_;refine ST.to (fun w H=>?_) (g':=g) (s':=rowA encInt 3 (.slice (some ⟨b,0,none⟩) l.length<|cap+1) (D++((J0++[z])++[y'])++R2)::s) ?_
      ·rw[show D++((J0++[z])++[y'])++R2=D++(J0++[z])++y'::R2 by simp];exact H
      exact ct (D,J0++[z],y',R2,n+1) sB I I ⟨lN,lN,by rw[L];simp only[bn,V];simp,lN⟩ lN
    ·have hR:R'=[]:=zf5 oM;subst hR;simp only[zc5] at m;refine xI<|tX<|tX<|bX<|tN<|rZ<|SL.to (fun w H=>At.shrink (i:=0) (D:=D) (J:=J0++[z]) H (by rw[zc7];rfl) rfl) ?_;refine lM I<|lM I<|lU (SU.eq (v':=.slice (some ⟨b,D.length * 1,none⟩) (l.length - D.length)<|cap+1 - D.length) (Ik aA zT3 I I oM oM)<|by rw[Int.toNat_natCast,oK oM,Nat.zero_add])<|lO (SO.clearA (D:=D) 0 sty43 (m6 (l:=[vi 0]) ⟨I,trivial⟩) I I I oM) ?_;rintro _ _ _ ⟨rfl,rfl⟩;refine tZ<|sW I<|lM I<|lU (SU.eq (v':=.slice (some ⟨b,0,none⟩) D.length<|cap+1) (Il aA zT3 I I oM oM)<|by rw[Int.toNat_natCast];exact D8) ?_;refine aT I<|rE<|bR<|tR<|tR<|bR<|tR ?_;exact za8 (.inl I) results45 I ⟨I,by rw[L];simp[bn]⟩
   ·refine kP<|bN<|tN<|rG<|lM I<|yD I<|lA I<|cp ?_;exact ct (k+1) ⟨I,bP oM,trivial⟩ I I ⟨oM,by
     have O:l=(A++[x])++y::R:=by rw[d];simp
     have h4:l.take (k+1+1)=(A++[x])++[y]:=by
      rw[O,show k+1+1=(A++[x]).length+1 by simp;omega];exact td _ y R
     rw[h4,show (A++[x])++[y]=A++x::[y] by simp,jA,e];simp[bn,q]⟩ oM
  ·have W:k+1=l.length:=oM;rw[W,tL<|dm _] at e;exact xI<|tX<|tX<|bX<|tN<|sW I<|aT I<|rE<|za8 (.inl I) results45 I ⟨I,by rw[e]⟩
theorem GI (n:Nat)(hn:n<1099511627776) :
  Ctr Tryz.prog E 100 #[.slice none 0 0,vi n] g s fun r g' s'=>g=g'∧s'=rowA encInt 3 r []::s:=by
 refine zb2 (args:=[.slice none 0 0,vi n]) func100 I ntmps100 (bE I)<|rZ<|aT I<|sQ<|sW I<|yL I<|tZ<|iP I (fun a=>?_) (fun a=>?_)
 ·exfalso;omega
 ·refine kP<|tN<|sQ<|sW I<|lM I<|lU (SU.cap aA I)<|lM I<|lU (eN aA I)<|lU (sU I I oM)<|lU (SU.eq (v':=vi n) (sU I I oM)<|ze3 vi oM)<|aT I<|sW I<|lU (gR I I)<|tZ<|iP I (fun c=>?_) (fun c=>?_)
  ·refine rG<|lM I<|lM I<|lU (SU.cap aA I)<|lU (SU.eq (v':=.slice none 0 0) (Il aA zT3 I I oM oM) I)<|lM I<|lW (SO.appendZ encInt sty43 uT3 I I oM oM oM) ?_;rintro _ _ _ ⟨b,cap,rfl,d,rfl,rfl⟩;exact lM I<|lU (eN aA I)<|lU (SU.eq (v':=.slice (some ⟨b,0,none⟩) 0<|cap+1) (Il aA zT3 I I oM oM) D8)<|aT I<|sW I<|aT I<|rE<|za8 (.inl I) results100 I ⟨I,I⟩
  ·exact kP<|tN<|sW I<|aT I<|rE<|I7 3 1<|za8 (.inl I) results100 I ⟨I,I⟩
def jn (ls:List<|List Int):Nat:=(ls.map List.length).sum
theorem lC (ls:List<|List Int)(k:Nat):jn (ls.take k)≤jn ls:=by
 have h:=ze3 (fun l=>(l.map List.length).sum)<|zj3 k ls;simp only[zg6,List.sum_append] at h;unfold jn;omega
theorem qk {ls:List<|List Int}(h:k<ls.length):jn (ls.take<|k+1)=jn (ls.take k)+ls[k].length:=by
 unfold jn;rw[tS h,zg6,List.sum_append];rfl
theorem rC (ls:List<|List Int):ls.flatten.length=jn ls:=List.length_flatten
theorem yW (v:Value)(ls:List<|List Int)(C:dn g v ls)(hn:ls.length<1099511627776)(hl:jn ls<1099511627776) :
  Ctr Tryz.prog E 51 #[v] g s fun r g' s'=>g=g'∧s'=rowA encInt 3 r ls.flatten::s:=by
 obtain ⟨rs,a,b⟩:=C;have B:=b.length;obtain ⟨p,c,rfl⟩:=za4 a;refine zb2 (args:=[.slice p rs.length c]) func51 I ntmps51 (bE I)<|rZ<|aT I<|rZ<|aT I<|sQ<|sW I<|lU (eN fe I)<|lM I<|tZ<|bK<|oP (ι:=Nat) (fun k=>[(0,.slice p rs.length c),(3,vi<|jn<|ls.take k),(9,.slice p rs.length c),(10,vi rs.length),(11,vi k)]) (fun _=>g) (fun _=>s) (fun k=>k≤rs.length) (fun k=>rs.length - k) 0
  sB rfl rfl (zf7 _) ?_
 rintro k K;have D:=lC ls k;refine rZ<|yL I<|tZ<|sQ<|iP I (fun u=>?_) (fun u=>?_)
 ·have j:k<ls.length:=oM;have l:k<rs.length:=oM;have x:=b.get (bd j)<|bd l;have F:=x.len;have d:=a.based oM;have y:=qk j;have z:=lC ls<|k+1;refine kP<|tN<|sQ<|bK<|rZ<|lU (iA fe gy I I d oM sL)<|SL.q (eB iE I a.rd (bd l) I) dC ?_;refine aT I<|sW I<|lM I<|lU (eN aA I)<|yD I<|aT I<|sW I<|yL I<|tZ<|iP I (fun n=>?_) (fun n=>?_)
  ·exfalso;omega
  ·exact kP<|bN<|tN<|rG<|yD I<|lM I<|cp<|ct (k+1) ⟨I,bP oM,I,I,I,trivial⟩ I I oM oM
 ·have G:ls.take k=ls:=tL oM;refine xI<|tX<|tX<|bX<|tN<|sW I<|lW (bt call100 I<|GI E g s (jn<|ls.take k) oM) ?_;rintro nv _ _ ⟨rfl,rfl⟩;refine aT I<|sQ<|sW I<|lU (eN fe I)<|lM I<|tZ<|bK<|oP (ι:=Value×Nat) (fun i=>[(0,.slice p rs.length c),(6,i.1),(25,.slice p rs.length c),(26,vi rs.length),(27,vi i.2)]) (fun _=>g) (fun i=>rowA encInt 3 i.1 (ls.take i.2).flatten::s) (fun i=>i.2≤rs.length) (fun i=>rs.length - i.2) (nv,0)
   sB rfl rfl (zf7 _) ?_
  rintro ⟨L,m⟩ hm;dsimp only at hm ⊢;refine rZ<|yL I<|tZ<|sQ<|iP I (fun o=>?_) (fun o=>?_)
  ·have f:m<ls.length:=oM;have t:m<rs.length:=oM;have x:=b.get (bd f)<|bd t;have d:=a.based oM;have y:=qk f;have z:=lC ls<|m+1;have H:=rC<|ls.take m;refine kP<|tN<|sQ<|bK<|rZ<|lU (iA fe gy I I d oM sL)<|SL.q (eB iE I a.rd (bd t) I) dC ?_;refine aT I<|rG<|lM I<|lM I<|lW (aQ (e:=encInt) 0 sty43 I I I x oM oM) ?_;rintro cv' _ _ ⟨rfl,rfl⟩;refine lA I<|cp<|bN<|tN<|rG<|yD I<|lM I<|cp ?_;refine ST.to (fun w J=>?_) (g':=g) (s':=rowA encInt 3 cv' (ls.take<|m+1).flatten::s) ?_
   ·rw[tS f,List.flatten_append,List.flatten_singleton];exact J
   exact ct (cv',m+1) sB I I lN lN
  ·have A:ls.take m=ls:=tL oM;rw[A];exact xI<|tX<|tX<|bX<|tN<|sW I<|aT I<|rE<|za8 (.inl I) results51 I ⟨I,I⟩
def lbL (ls:List<|List Int)(t:List Int):Nat:=(ls.filter fun x=>decide<|aw x t<0).length
theorem FE {α:Type}{p:α→Bool}{l:List α}(e:i≤l.length)(c:∀ k (h:k<l.length),k<i→p l[k]=true)(d:∀ k (h:k<l.length),i≤k→p l[k]=false):(l.filter p).length=i:=by
 rw[← zj3 i l,zh7,ze6];have f1:(l.take i).filter p=l.take i:=List.filter_eq_self.2 fun x a=>by
  obtain ⟨k,b,rfl⟩:=zc8 a;rw[ze5] at b;rw[List.getElem_take];exact c k oM oM
 have f2:(l.drop i).filter p=[]:=List.filter_eq_nil_iff.2 fun x a=>by
  obtain ⟨k,b,rfl⟩:=zc8 a;rw[zf1] at b;rw[List.getElem_drop,d (i+k) oM oM];simp
 rw[f1,f2];simp;omega
theorem BD (v u:Value)(ls:List<|List Int)(t:List Int)(S:dn g v ls)(O:dA g u t)(hl:ls.length<1099511627776)(w:∀ x∈ls,x.length<1099511627776)
  (P:∀ i j (V:i<ls.length) (B:j<ls.length),i<j→aw ls[j] t<0→aw ls[i] t<0) :
  Ctr Tryz.prog E 52 #[v,u,.func (.func 48) #[] #[]] g s fun r g' s'=>(∃ b,r = .tuple #[vi<|lbL ls t,vb b])∧g=g'∧s=s':=by
 obtain ⟨rs,a,d⟩:=S;have Q:=d.length;obtain ⟨p,c,rfl⟩:=za4 a;refine zb2 (args:=[.slice p rs.length c,u,.func (.func 48) #[] #[]]) func52 I ntmps52 (bE I)<|rZ<|lA I<|aT I<|sW I<|lU (eN fe I)<|aT I<|sW I<|lA I<|aT I<|sQ<|bK<|oP (ι:=Nat×Nat) (fun q=>[(0,.slice p rs.length c),(1,u),(2,.func (.func 48) #[] #[]),(8,vi rs.length),(9,vi q.1),(10,vi q.2)]) (fun _=>g) (fun _=>s)
  (fun q=>q.1≤q.2∧q.2≤ls.length∧(∀ k (h:k<ls.length),k<q.1→aw ls[k] t<0)∧∀ k (h:k<ls.length),q.2≤k→¬ aw ls[k] t<0) (fun q=>q.2 - q.1) (0,ls.length)
  ⟨rfl,rfl,rfl,rfl,rfl,bP oM,trivial⟩ rfl rfl ⟨zf7 _,dm _,fun k _ h=>absurd h oM,fun k T C=>absurd T<|by dsimp only at C;omega⟩ ?_
 rintro ⟨i,j⟩ ⟨D,B,l,m⟩;dsimp only at D B l m ⊢;refine sQ<|sW I<|lM I<|yL I<|tZ<|iP I (fun F=>?_) (fun F=>?_)
 ·have G:=a.based oM;have y:((i:Int)+(j:Int)) / 2=(((i+j) / 2:Nat):Int):=oM;have e:(i+j) / 2<ls.length:=oM;have z:(i+j) / 2<rs.length:=oM;have H:rs[((((i+j) / 2:Nat):Int)).toNat]?=some rs[(i+j) / 2]:=bd z;have U:=d.get (bd e)<|bd z;have n:=w _<|gM e;refine kP<|tN<|bK<|sW I<|lM I<|yD I<|lU (ze1 uT3 j7 I)<|lU (I0 I I dC)<|lU (SU.eq (ze1 j7 uT3 I)<|ze3 vi<|(mg _ oM oM).trans y)<|aT I<|sW I<|lM I<|lM I<|lU (iA fe gy I I G oM sL)<|lK (eB iE I a.rd H I)<|lM I<|lW (DO I I<|cQ.mk (args:=[_,_]) (cap:=[]) call48<|lV E g _ _ _ ls[(i+j) / 2] t U O n) ?_;rintro _ _ _ ⟨rfl,rfl,rfl⟩;refine yL I<|tZ<|iP I (fun hc=>?_) (fun hc=>?_)
  ·refine rG<|lM I<|yD I<|lA I<|cp<|bN<|ct ((i+j) / 2+1,j) sB I I ⟨lN,B,fun k J h=>?_,m⟩ lN;dsimp only at h
   rcases Nat.eq_or_lt_of_le (show k≤(i+j) / 2 by omega) with rfl | f
   ·exact hc
   ·exact P k ((i+j) / 2) J e f hc
  ·refine rG<|lM I<|lA I<|cp<|bN<|ct (i,(i+j) / 2) sB I I ⟨lN,lN,l,fun k J h=>?_⟩ lN;dsimp only at h
   rcases Nat.eq_or_lt_of_le (show (i+j) / 2≤k by omega) with f | f
   ·subst f;exact hc
   ·exact fun K=>hc<|P ((i+j) / 2) k e J f K
 ·have L:i=j:=oM;subst L;have A:lbL ls t=i:=FE B (fun k h f=>by simpa using l k h f) (fun k h f=>by simpa using m k h f);have M:=fun h=>a.based h;have K:(i:Int)<(rs.length:Int)→∃ r,rs[((i:Nat):Int).toNat]?=some r∧∃ x,ep g x r∧x.length<1099511627776:=fun h=>by
   have C:i<ls.length:=oM;have R:i<rs.length:=oM;exact⟨rs[i],bd R,ls[i],d.get (bd C)<|bd R,w _<|gM C⟩
  by_cases o:(i:Int)<(rs.length:Int)
  ·obtain ⟨r,hr,x,N,n⟩:=K o;have hd:decide ((i:Int)<(rs.length:Int))=true:=zf9 o;refine xI<|tX<|tX<|bX<|tN<|sW I<|lM I<|lM I<|lU (SU.eq (lS I I)<|ze3 vb hd)<|lM I<|yC I<|yC I<|yC I<|lY I I I (iA fe gy I I (M oM) oM sL)<|lR (gT I I I dC) (eB iE I a.rd hr I) dC<|yC I<|IQ (gT I I I dC) (DO I I<|cQ.mk (args:=[_,_]) (cap:=[]) call48<|lV E g _ _ _ x t N O n) dC ?_;rintro _ _ _ ⟨rfl,rfl,rfl⟩;exact lY I I I (eQ I I)<|yP I<|lA I<|aT I<|rE<|Iq (.inl I) results52 I I ⟨⟨_,by rw[A]⟩,I,I⟩
  ·have hd:decide ((i:Int)<(rs.length:Int))=false:=zf8 o;exact xI<|tX<|tX<|bX<|tN<|sW I<|lM I<|lM I<|lU (SU.eq (lS I I)<|ze3 vb hd)<|lM I<|yA I<|yA I<|yA I<|yA I<|yA I<|yA I<|yA I<|yA I<|yF I<|lA I<|aT I<|rE<|Iq (.inl I) results52 I I ⟨⟨_,by rw[A]⟩,I,I⟩
theorem bJ (a b:Int):(a<b∧iI a b = -1)∨(a=b∧iI a b=0)∨(b<a∧iI a b=1):=by
 unfold iI;by_cases h:a<b
 ·exact .inl ⟨h,zg2 h⟩
 ·by_cases c:a>b
  ·exact .inr<|.inr ⟨c,by rw[zg1 h,zg2 c]⟩
  ·exact .inr<|.inl ⟨oM,by rw[zg1 h,zg1 c]⟩
theorem mY:∀ a b:List Int,iH b a = - iH a b
 | [],[]=>rfl
 | [],_::_=>rfl
 | _::_,[]=>rfl
 | x::a,y::b=>by
  have ih:=mY a b;simp only[iH]
  rcases bJ x y with ⟨h,e⟩ | ⟨h,e⟩ | ⟨h,e⟩ <;> rcases bJ y x with ⟨c,e'⟩ | ⟨c,e'⟩ | ⟨c,e'⟩ <;> simp[e,e'] <;> omega
theorem CL:∀ a b:List Int,iH a b=0↔a=b
 | [],[]=>by simp[iH]
 | [],_::_=>by simp[iH]
 | _::_,[]=>by simp[iH]
 | x::a,y::b=>by
  have ih:=CL a b;simp only[iH]
  rcases bJ x y with ⟨h,e⟩ | ⟨h,e⟩ | ⟨h,e⟩
  ·simp[e];omega
  ·subst h;simp[e,ih]
  ·simp[e];omega
theorem sZ:∀ a b c:List Int,iH a b<0→iH b c<0→iH a c<0
 | [],[],_,h,_=>by simp[iH] at h
 | [],_::_,[],_,h=>by simp[iH] at h
 | [],_::_,_::_,_,_=>by simp[iH]
 | _::_,[],_,h,_=>by simp[iH] at h
 | _::_,_::_,[],_,h=>by simp[iH] at h
 | x::a,y::b,z::c,g,i=>by
  have ih:=sZ a b c;simp only[iH] at g i ⊢
  rcases bJ x y with ⟨h,e⟩ | ⟨h,e⟩ | ⟨h,e⟩ <;> rcases bJ y z with ⟨j,e'⟩ | ⟨j,e'⟩ | ⟨j,e'⟩ <;> rcases bJ x z with ⟨f,d⟩ | ⟨f,d⟩ | ⟨f,d⟩ <;> simp[e,e',d] at g i ⊢ <;> first | omega | exact ih g i
theorem jx (a b:List Int):aw b a = - aw a b:=by
 have d:=mY a b;unfold aw
 rcases bJ a.length b.length with ⟨h,e⟩ | ⟨h,e⟩ | ⟨h,e⟩ <;> rcases bJ b.length a.length with ⟨c,e'⟩ | ⟨c,e'⟩ | ⟨c,e'⟩ <;> simp[e,e'] <;> omega
theorem qN (a b:List Int):aw a b=0↔a=b:=by
 have d:=CL a b;unfold aw
 rcases bJ a.length b.length with ⟨h,e⟩ | ⟨h,e⟩ | ⟨h,e⟩
 ·simp[e];intro c;rw[c] at h;omega
 ·simp[e,d]
 ·simp[e];intro c;rw[c] at h;omega
theorem fg (a b c:List Int)(g:aw a b<0)(i:aw b c<0):aw a c<0:=by
 have ih:=sZ a b c;unfold aw at *
 rcases bJ a.length b.length with ⟨h,e⟩ | ⟨h,e⟩ | ⟨h,e⟩ <;> rcases bJ b.length c.length with ⟨j,e'⟩ | ⟨j,e'⟩ | ⟨j,e'⟩ <;> rcases bJ a.length c.length with ⟨f,d⟩ | ⟨f,d⟩ | ⟨f,d⟩ <;> simp[e,e',d] at g i ⊢ <;> first | omega | exact ih g i
theorem cZ (a:List Int):aw a a=0:=(qN a a).2 rfl
theorem ex (a b:List Int):aw a b<0∨a=b∨aw b a<0:=by
 have c:=jx a b
 rcases Int.lt_trichotomy (aw a b) 0 with h | h | h
 ·exact .inl h
 ·exact .inr<|.inl<|(qN a b).1 h
 ·exact .inr<|.inr oM
theorem iK (a b c:List Int)(f:¬ aw a b<0)(d:¬ aw b c<0):¬ aw a c<0:=by
 intro e
 rcases ex a b with h | h | h
 ·exact f h
 ·subst h;exact d e
 ·exact d<|fg b a c h e
def ux (l:List<|List Int):Prop:=l.Pairwise fun a b=>¬ aw b a<0
def FR (x:List Int):List (List Int)→List (List Int)
 | []=>[x]
 | y::r=>if aw y x<0 then y::FR x r else x::y::r
def oW:List (List Int)→List (List Int)
 | []=>[]
 | x::r=>FR x<|oW r
theorem pw (x:List Int):∀ l,(FR x l).Perm (x::l)
 | []=>.refl _
 | y::r=>by
  unfold FR;split
  ·exact ((pw x r).cons y).trans<|.swap x y r
  ·exact .refl _
theorem jh:∀ l,(oW l).Perm l
 | []=>.refl _
 | x::r=>(pw x<|oW r).trans<|(jh r).cons x
theorem zZ (x:List Int):∀ {l},ux l→ux (FR x l)
 | [],_=>List.pairwise_singleton _ _
 | y::r,h=>by
  obtain ⟨b,c⟩:=zk4.1 h;unfold FR;split
  ·rename_i a;refine zk4.2 ⟨fun z hz=>?_,zZ x c⟩
   rcases zf2.1 ((pw x r).subset hz) with rfl | hz
   ·intro d;have:=fg y z y a d;rw[cZ] at this;omega
   ·exact b z hz
  ·rename_i a;refine zk4.2 ⟨fun z hz=>?_,h⟩
   rcases zf2.1 hz with rfl | hz
   ·exact a
   ·exact iK z y x (b z hz) a
theorem jX:∀ l,ux (oW l)
 | []=>List.Pairwise.nil
 | x::r=>zZ x<|jX r
theorem qp:∀ {l m:List<|List Int},ux l→ux m→l.Perm m→l=m
 | [],m,_,_,h=>(List.nil_perm.1 h).symm
 | x::l,[],_,_,h=>by have:=h.length_eq;simp at this
 | x::l,y::m,hl,hm,h=>by
  obtain ⟨f,g⟩:=zk4.1 hl;obtain ⟨i,j⟩:=zk4.1 hm;have b:x=y:=by
   have c:x∈y::m:=h.subset dO;have d:y∈x::l:=h.symm.subset dO
   rcases zf2.1 c with e | c
   ·exact e
   ·rcases zf2.1 d with e | d
    ·exact e.symm
    ·rcases ex x y with a | a | a
     ·exact absurd a<|i x c
     ·exact a
     ·exact absurd a<|f y d
  subst b;rw[qp g j<|h.cons_inv]
open Go Go.Sy Go.Pl Go.Proofs Go.Shelf Go.Sort
def Tryz.sortF_ren:Ren :=
 {
  f:=fun x =>
   match x with
   | 6=>47
   | 15=>82
   | 14=>98
   | 28=>141
   | 29=>142
   | 20=>164
   | 21=>165
   | 22=>166
   | 23=>167
   | 24=>168
   | 25=>169
   | 26=>170
   | 27=>171
   | 46=>204
   | 47=>188
   | 48=>189
   | 49=>205
   | 50=>206
   | 57=>229
   | n=>n,
  t:=fun x =>
   match x with
   | 22=>22
   | 24=>43
   | 25=>94
   | 3=>3
   | 39=>126
   | 0=>0
   | 53=>177
   | 55=>179
   | 4=>4
   | 46=>171
   | 45=>170
   | 50=>97
   | 5=>5
   | 9=>9
   | 66=>216
   | 70=>220
   | 76=>233
   | 77=>234
   | n=>n,
  g:=fun x =>
   have n:=x;
   n }
theorem Tryz.sortF:SlLaysF.n6 Tryz.prog Tryz.sortF_ren :=
  {
  mixed:=Eq.refl true,
  f6 :=
   Exists.intro "slices.SortFunc[[][]int,[]int]"
    ⟨zg4<|id<|Eq.refl true,
     zb8 func47
      (ze3 some
       kR)⟩,
  f14 :=
   Exists.intro "slices.pdqsortCmpFunc[[]int]"
    ⟨zg4<|id<|Eq.refl true,
     zb8 func98
      (ze3 some
       kR)⟩,
  f15:=zb8 func82<|ze3 some kR,
  f20 :=
   Exists.intro "slices.insertionSortCmpFunc[[]int]"
    ⟨zg4<|id<|Eq.refl true,
     zb8 func164
      (ze3 some
       kR)⟩,
  f21 :=
   Exists.intro "slices.heapSortCmpFunc[[]int]"
    ⟨zg4<|id<|Eq.refl true,
     zb8 func165
      (ze3 some
       kR)⟩,
  f22 :=
   Exists.intro "slices.breakPatternsCmpFunc[[]int]"
    ⟨zg4<|id<|Eq.refl true,
     zb8 func166
      (ze3 some
       kR)⟩,
  f23 :=
   Exists.intro "slices.choosePivotCmpFunc[[]int]"
    ⟨zg4<|id<|Eq.refl true,
     zb8 func167
      (ze3 some
       kR)⟩,
  f24 :=
   Exists.intro "slices.reverseRangeCmpFunc[[]int]"
    ⟨zg4<|id<|Eq.refl true,
     zb8 func168
      (ze3 some
       kR)⟩,
  f25 :=
   Exists.intro "slices.partialInsertionSortCmpFunc[[]int]"
    ⟨zg4<|id<|Eq.refl true,
     zb8 func169
      (ze3 some
       kR)⟩,
  f26 :=
   Exists.intro "slices.partitionEqualCmpFunc[[]int]"
    ⟨zg4<|id<|Eq.refl true,
     zb8 func170
      (ze3 some
       kR)⟩,
  f27 :=
   Exists.intro "slices.partitionCmpFunc[[]int]"
    ⟨zg4<|id<|Eq.refl true,
     zb8 func171
      (ze3 some
       kR)⟩,
  f28:=zb8 func141<|ze3 some kR,
  f29:=zb8 func142<|ze3 some kR,
  f46 :=
   Exists.intro "slices.siftDownCmpFunc[[]int]"
    ⟨zg4<|id<|Eq.refl true,
     zb8 func204
      (ze3 some
       kR)⟩,
  f47:=zb8 func188<|ze3 some kR,
  f48:=zb8 func189<|ze3 some kR,
  f49 :=
   Exists.intro "slices.medianAdjacentCmpFunc[[]int]"
    ⟨zg4<|id<|Eq.refl true,
     zb8 func205
      (ze3 some
       kR)⟩,
  f50 :=
   Exists.intro "slices.medianCmpFunc[[]int]"
    ⟨zg4<|id<|Eq.refl true,
     zb8 func206
      (ze3 some
       kR)⟩,
  f57 :=
   Exists.intro "slices.order2CmpFunc[[]int]"
    ⟨zg4<|id<|Eq.refl true,
     zb8 func229
      (ze3 some
       kR)⟩,
  t0:=uT0,a0:=isAgg0,z0:=sizeOf0,v0:=zm3,t3:=uT3,
  a3:=iT3,z3:=zT3,v3:=zl7,t4:=uT4,a4:=isAgg4,
  z4:=zT4,v4:=zm2,t5:=uT5,a5:=isAgg5,z5:=sizeOf5,
  v5:=zeroValue5,t9:=uT9,a9:=isAgg9,z9:=sizeOf9,v9:=zeroValue9,
  t22:=fe,a22:=isAgg22,z22:=sizeOf22,v22:=zeroValue22,a24:=iE,
  z24:=gy,t25:=underlying94,a25:=isAgg94,z25:=sizeOf94,v25:=zeroValue94,
  t39:=j7,a39:=isAgg126,z39:=sizeOf126,v39:=zeroValue126,
  t45:=underlying170,a45:=isAgg170,z45:=sizeOf170,v45:=zeroValue170,
  t46:=underlying171,a46:=isAgg171,z46:=sizeOf171,v46:=zeroValue171,
  t50:=underlying97,a50:=isAgg97,z50:=sizeOf97,v50:=zeroValue97,
  t53:=underlying177,a53:=isAgg177,z53:=sizeOf177,v53:=zeroValue177,
  t55:=nK,a55:=isAgg179,z55:=sizeOf179,v55:=zeroValue179,
  t66:=underlying216,a66:=isAgg216,z66:=sizeOf216,v66:=zeroValue216,
  t70:=underlying220,a70:=isAgg220,z70:=sizeOf220,v70:=zeroValue220,
  t76:=underlying233,a76:=isAgg233,z76:=sizeOf233,v76:=zeroValue233,
  t77:=underlying234,a77:=isAgg234,z77:=sizeOf234,v77:=zeroValue234 }
structure LV (g:PH) where
 sv:Sv
 l:List Int
 h:ep g l sv
 len:l.length<1099511627776
def LV.val {g:PH}(x:LV g):Value:=.slice x.sv.p x.sv.n x.sv.c
def lP (g:PH):Enc (LV g) 1:=⟨fun x=>[x.val],fun _=>rfl,fun _ u hu=>by simp at hu;subst hu;rfl,by decide⟩
instance (g:PH):Inhabited<|LV g:=⟨⟨⟨none,0,0⟩,[],zc1 g 1,by decide⟩⟩
theorem CE {g:PH}(l:List<|LV g):l.flatMap (lP g).enc=l.map LV.val:=by
 induction l with
 | nil=>rfl
 | cons a t ih=>simp only[zh6,zg5,ih];rfl
def zj (W:World):PH:=fun b=>W.heap[b]?
theorem FL (W:World):At W (zj W) [] W:=⟨rfl,⟨rfl,dm _⟩,rfl,fun _ _ h=>h,by simp,by simp,List.Pairwise.nil⟩
theorem Ao {W w':World}(h:At W (zj W) [] w'):∃ q c,w'=grow (W.drewN q) c:=by
 refine⟨w'.drawn - W.drawn,w'.heap.extract W.heap.size,?_⟩;have a:∀ k,k<W.heap.size→w'.heap[k]?=W.heap[k]?:=fun k d=>by
  rw[h.known k W.heap[k]<|by simp[zj,d],vj d]
 have j:W.heap.size≤w'.heap.size:=by
  rcases Nat.eq_zero_or_pos W.heap.size with l | l
  ·omega
  ·have:=a (W.heap.size - 1) oM;rw[vj (xs:=W.heap) oM] at this;have:=(Array.getElem?_eq_some_iff.1 this).1;omega
 have b:w'.heap=W.heap++w'.heap.extract W.heap.size:=by
  apply Array.ext_getElem?;intro k;rw[Array.getElem?_append];split
  ·exact a k io
  ·rename_i d;rw[Array.getElem?_extract];by_cases m:k<w'.heap.size
   ·rw[zg2 oM];congr 1;omega
   ·rw[zg1 oM,Array.getElem?_eq_none oM]
 obtain ⟨hp,p,r,n,ou⟩:=w';have f:=h.os;have g:=h.tape;have i:=h.output;simp only at f g i b;simp only[grow,World.drewN];obtain ⟨e,o⟩:=g;subst f;subst e;subst i;congr 1;omega
theorem GM {E:World}{g:PH}{s:Own}{l:List<|LV g}{w:World}{off:Nat}(j:At E g s w)(hb:g b=none):CmpLays1 Tryz.prog 48 #[] (LV.val (g:=g)) (fun x y=>aw x.l y.l) b off l.toArray.size w:=by
 intro m os dk q x y;have a:Le g<|zj<|sortWorld LV.val w b off m dk os:=fun k o c=>by
  have n:=j.known k o c;have d:=j.lt c;have f:b≠k:=fun e=>by rw[e] at hb;rw[hb] at c;cases c
  show (grow (putRow LV.val (Sort.ahead w m) b off dk) os).heap[k]?=some o;rw[heap_grow_old _ _<|by simpa using d];simp[putRow,mapBlock,Sort.ahead,Array.getElem?_modify,f,n]
 have p:=lV (sortWorld LV.val w b off m dk os) (zj _) [] x.val y.val x.l y.l (za5 x.h a) (za5 y.h a) x.len _ (FL _);refine p.mono ?_;rintro e w' ⟨v',g',s',rfl,i,rfl,rfl,rfl⟩;exact⟨I,Ao i⟩
theorem xY (v:Value)(l:List<|LV g)(V:0<l.length)(hl:l.length<1099511627776) :
  Ctr Tryz.prog E 47 #[v,.func (.func 48) #[] #[]] g (rowA (lP g) 43 v l::s) fun _ g' s'=>g=g'∧∃ l':List (LV g),l'.Perm l∧l'.map LV.l=oW (l.map LV.l)∧s'=rowA (lP g) 43 v l'::s:=by
 intro w F;obtain ⟨m,r⟩:=ia (i:=0) F rfl
 rcases r with ⟨p,rfl,hn⟩ | ⟨b,cap,cur,rfl,hb,O,G,H,P⟩
 ·omega
 ·have J:=F.fresh _ (by simp:rowA (lP g) 43 (.slice (some ⟨b,0,none⟩) l.length<|cap+1) l∈_) b rfl;have d:=(Array.getElem?_eq_some_iff.1 hb).1;have K:cur.toList.take l.length=l.map LV.val:=by rw[← CE];simpa using P
  have Q:Holds LV.val w b 0 l.toArray:=by
   intro j q;have t:j<l.length:=by simpa using q
   refine⟨?_,by simp[World.frozen?,hb]⟩;have m:(cur.toList.take l.length)[j]?=(l.map LV.val)[j]?:=by rw[K]
   rw[List.getElem?_take_of_lt t] at m;simp only[World.cell?,hb,Nat.zero_add];simp only[Option.isSome_none,Bool.false_eq_true,if_false];rw[← Array.getElem?_toList,m];simp[t]
  have u:SWO (ltOf fun x y:LV g=>aw x.l y.l):=⟨fun x=>by simp[ltOf,cZ],fun x y z m r=>by simp[ltOf] at *;exact fg _ _ _ m r,fun x y z m r=>by
   simp only[ltOf,hP] at *;exact iK _ _ _ m r⟩
  refine (Any.slices_SortFunc Tryz.sortF LV.val (fun _=>I) (fun x y:LV g=>aw x.l y.l) u 48 #[] b 0 (cap+1) l.toArray w call48 (GM F J.1) Q d<|by simp;omega).mono ?_;rintro e w' ⟨rfl,a,n,os,hp,L,rfl⟩;obtain ⟨a⟩:=a;have o:a.length=l.length:=by have:=hp.1;simpa using this
  have c:a.Perm l:=by
   have f:=hp.2.2;simp only[List.size_toArray,List.extract_toArray] at f;simpa [List.extract_eq_take_drop,o,tL<|Nat.le_of_eq o] using f
  have A:ux<|a.map LV.l:=by
   rw[ux,zk5,zd1];intro i j R q M;have f:=L i j (zf7 _) M (by simp;omega);simp only[ltOf,hP] at f;simpa [R,q] using f
  have B:a.map LV.l=oW (l.map LV.l):=qp A (jX _)<|(c.map _).trans (jh _).symm;refine⟨_,g,rowA (lP g) 43 (.slice (some ⟨b,0,none⟩) l.length<|cap+1) a::s,I,?_,I,a,c,B,I⟩;have f:(sortWorld LV.val w b 0 n a.toArray os).heap[b]?=some (.cells (putCells LV.val 0 a.toArray cur) 43 (0,0)):=by
   show (grow (putRow LV.val (Sort.ahead w n) b 0 a.toArray) os).heap[b]?=_;rw[heap_grow_old _ _<|by simpa using d];simp[putRow,mapBlock,Sort.ahead,Array.getElem?_modify,hb,onCells]
  have S:=F.turn (i:=0) (w':=sortWorld LV.val w b 0 n a.toArray os) (e':=rowA (lP g) 43 (.slice (some ⟨b,0,none⟩) l.length<|cap+1) a) rfl rfl ⟨rfl,Nat.le_add_right _ _⟩ rfl (by simp[sortWorld,grow,putRow,mapBlock,Sort.ahead]) (fun k U N=>by
    have C:b≠k:=fun e=>N (by rw[e];rfl);show (grow (putRow LV.val (Sort.ahead w n) b 0 a.toArray) os).heap[k]?=_;rw[heap_grow_old _ _<|by simpa using U];simp[putRow,mapBlock,Sort.ahead,Array.getElem?_modify,C]) (by
    have:=eH (w:=sortWorld LV.val w b 0 n a.toArray os) (T:=43) (k:=1) (n:=a.length) (b:=b) (cap:=cap) (xs:=a.flatMap (lP g).enc) (by rw[(lP g).length]) f oM G (by simp[putCells];simpa using H) (by
     rw[CE,Nat.mul_one];apply List.ext_getElem?;intro j;by_cases q:j<a.length
     ·rw[List.getElem?_take_of_lt q,Array.getElem?_toList];simp[putCells,q,show j<cur.size by omega]
     ·rw[List.getElem?_take_eq_none oM,List.getElem?_eq_none (by simp;omega)])
    rw[show rowA (lP g) 43 (.slice (some ⟨b,0,none⟩) l.length<|cap+1) a=row 43 1 (.slice (some ⟨b,0,none⟩) a.length<|cap+1) a.length (a.flatMap (lP g).enc) by simp only[rowA,o]];exact this) (fun W D=>by
    simp only[rowA,row,jV,zg8] at D;subst D;exact⟨(Array.getElem?_eq_some_iff.1 f).1,.inl I⟩)
  exact S
end Go.Proofs.YtpmoadbbfobbcaaGreatDoor
