/- 5 -/
import Derived.Test.YtdepcjnaieflmaaGreatDoorMc04
import Derived.Shelf.SlSortCmp.Whole1
set_option linter.unusedSimpArgs false
set_option linter.unusedVariables false
namespace Go.Proofs.YtdepcjnaieflmaaGreatDoor
open _root_.Go.Proofs.Tryz _root_.Go.Proofs.YtdepcjnaieflmaaGreatDoor.Tryz
open Go Go.Sy Go.Pl Go.Proofs
set_option maxRecDepth 100000
def ay (tl:List Cl)(x:aj):List aj:=((ag tl x.cell).getD aA).sides
def jM (x:aj)(zl:List (Int×Int))(r:aj):List (Int×Int):=fw zl r.cell (x.sign * r.sign)
def fg (i:Int)(ml:List (Int×List Int))(r:aj):List (Int×List Int):=gI ml r.cell i
def fx (tl:List Cl)(l:List aj):List (Int×Int):=l.foldl (fun zl x=>(ay tl x).foldl (jM x) zl) []
def e8 (tl:List Cl)(l:List aj):List (Int×List Int):=l.zipIdx.foldl (fun ml p=>(ay tl p.1).foldl (fg p.2) ml) []
def lx (jl:List (Int×List Int))(p:Int×List Int):List (Int×List Int):=match p.2 with
 | [a,b]=>gI (gI jl a b) b a
 | _=>jl
def dJ (ml:List (Int×List Int)):List (Int×List Int):=ml.foldl lx []
def jy (jl:List (Int×List Int)):List Int:=dfs (jY jl) (jl.length+1) 0 []
def bD (tl:List Cl)(c:Cl):Int :=
 if (fx tl c.sides).any (fun p=>decide (p.2≠0)) then 24
 else if (e8 tl c.sides).any (fun p=>decide ((p.2.length:Int)≠2)) then 25
 else if ((jy<|dJ<|e8 tl c.sides).length:Int)≠c.sides.length then 25 else 0
def AOk (tl:List Cl)(c:Cl):Prop:=c.sides.length≤64∧(∀ x∈c.sides,x.sign=1∨x.sign = -1)∧∀ x∈c.sides,(ay tl x).length≤64∧∀ r∈ay tl x,r.sign=1∨r.sign = -1
theorem qP {tl:List Cl}{l:List aj}{x:aj}:fx tl (l++[x])=(ay tl x).foldl (jM x) (fx tl l):=by
 simp[fx,zj2]
theorem B7 {tl:List Cl}{l:List aj}{x:aj}:e8 tl (l++[x])=(ay tl x).foldl (fg l.length) (e8 tl l):=by
 simp[e8,List.zipIdx_append,zj2]
theorem sw {a b:Int}(c:a=1∨a = -1)(hb:b=1∨b = -1):a * b=1∨a * b = -1:=by
 rcases c with rfl | rfl <;> rcases hb with rfl | rfl <;> decide
theorem CN (ml:List (Int×List Int))(k x:Int):(gI ml k x).map Prod.fst=if ml.any (fun p=>decide (p.1=k)) then ml.map Prod.fst else ml.map Prod.fst++[k]:=by
 induction ml with
 | nil=>rfl
 | cons p r ih =>
  obtain ⟨a,l⟩:=p;simp only[gI];by_cases h:k=a
  ·subst h;simp
  ·have b:¬ a=k:=fun e=>h e.symm;rw[zg2 h];simp only[zg6,ih,List.any_cons,b,decide_false,Bool.false_or];split <;> simp
theorem Ay {ml:List (Int×List Int)}(h:(ml.map Prod.fst).Nodup)(k x:Int):((gI ml k x).map Prod.fst).Nodup:=by
 rw[CN];split
 ·exact h
 ·rename_i d;rw[List.nodup_append];refine⟨h,by simp,fun a f b hb e=>d ?_⟩;simp at hb;subst hb;obtain ⟨p,hp,c⟩:=zf4.1 f;rw[zk1];exact⟨p,hp,by simp[c,e]⟩
theorem kB (tl:List Cl)(l:List aj):((e8 tl l).map Prod.fst).Nodup:=by
 unfold e8;have a:∀ (q:List (aj×Nat)) (ml:List (Int×List Int)),(ml.map Prod.fst).Nodup→((q.foldl (fun ml p=>(ay tl p.1).foldl (fg p.2) ml) ml).map Prod.fst).Nodup:=by
  intro q;induction q with
  | nil=>intro ml h;exact h
  | cons p t ih =>
   intro ml h;refine ih _ ?_;have b:∀ (q:List aj) (ml:List (Int×List Int)),(ml.map Prod.fst).Nodup→((q.foldl (fg p.2) ml).map Prod.fst).Nodup:=by
    intro q;induction q with
    | nil=>intro ml h;exact h
    | cons r t ih=>intro ml h;exact ih _<|Ay h _ _
   exact b _ _ h
 exact a _ _ dO
theorem xD (ml:List (Int×List Int))(k x:Int):(gI ml k x).length≤ml.length+1:=by
 induction ml with
 | nil=>simp[gI]
 | cons p r ih =>
  obtain ⟨a,l⟩:=p;simp only[gI];split <;> simp <;> omega
theorem wZ {tl:List Cl}{l:List aj}(h:∀ x∈l,(ay tl x).length≤64):(e8 tl l).length≤64 * l.length:=by
 have b:∀ (q:List (aj×Nat)) (ml:List (Int×List Int)),(∀ p∈q,(ay tl p.1).length≤64)→(q.foldl (fun ml p=>(ay tl p.1).foldl (fg p.2) ml) ml).length≤ml.length+64 * q.length:=by
  intro q;induction q with
  | nil=>intro ml _;simp
  | cons p t ih =>
   intro ml hq;have c:∀ (q:List aj) (ml:List (Int×List Int)),(q.foldl (fg p.2) ml).length≤ml.length+q.length:=by
    intro q;induction q with
    | nil=>intro ml;simp
    | cons r t ih =>
     intro ml;have d:=ih<|fg p.2 ml r;have e:=xD ml r.cell p.2;simp only[zj1,zf1];unfold fg at d ⊢;omega
   have f:=ih ((ay tl p.1).foldl (fg p.2) ml) (fun p hp=>hq p<|by simp[hp]);have g:=c (ay tl p.1) ml;have j:=hq p dO;simp only[zj1,zf1];omega
 have:=b l.zipIdx [] (fun p hp=>h p.1 (by
  obtain ⟨a,i⟩:=p;exact (List.mem_zipIdx hp).2.2 ▸ gM _))
 simpa [e8] using this
theorem wS {α:Type}(f:α→Int){k ms:List α}(n:∀ t∈k,t∈ms)(hp:(k.map f).Perm (ms.map f))(hn:(ms.map f).Nodup):k.Perm ms:=by
 have g:∀ {l:List α},(l.map f).Nodup→∀ a∈l,∀ b∈l,f a=f b→a=b:=by
  intro l;induction l with
  | nil=>intro _ a m;simp at m
  | cons c t ih =>
   intro h a m b hb e;simp only[zg6,zk4] at h
   rcases zf3.1 m with rfl | i <;> rcases zf3.1 hb with rfl | j
   ·rfl
   ·exact absurd (zf4.2 ⟨b,j,e.symm⟩) h.1
   ·exact absurd (zf4.2 ⟨a,i,e⟩) h.1
   ·exact ih h.2 a i b j e
 refine (List.perm_ext_iff_of_nodup (List.Pairwise.of_map f (fun a b d e=>d<|by rw[e])<|hp.symm.nodup hn)<|List.Pairwise.of_map f (fun a b d e=>d<|by rw[e]) hn).2 fun c=>⟨n c,fun hc=>?_⟩;obtain ⟨o,p,q⟩:=zf4.1<|hp.symm.subset<|zf4.2 ⟨c,hc,rfl⟩;rw[← g hn o (n o p) c hc q];exact p
theorem DA (c:List (Int×List Int))(a b x y:Int):y∈fj (gI c a b) x↔y∈fj c x∨(x=a∧y=b):=by
 rw[uz];split
 ·rename_i h;simp[h]
 ·rename_i h;simp[h]
theorem lv (ml:List (Int×List Int))(x y:Int):y∈fj (dJ ml) x↔∃ p∈ml,p.2=[x,y]∨p.2=[y,x]:=by
 have key:∀ (q:List (Int×List Int)) (e:List (Int×List Int)),y∈fj (q.foldl lx e) x↔y∈fj e x∨∃ p∈q,p.2=[x,y]∨p.2=[y,x]:=by
  intro q;induction q with
  | nil=>intro e;simp
  | cons p t ih =>
   intro e;simp only[zj1,ih];have hp:y∈fj (lx e p) x↔y∈fj e x∨(p.2=[x,y]∨p.2=[y,x]):=by
    obtain ⟨k,l⟩:=p;unfold lx;dsimp only
    match l with
    | []=>simp
    | [_]=>simp
    | [a,b] =>
     simp only[DA,List.cons.injEq,and_true];constructor
     ·rintro ((h | ⟨c,d⟩) | ⟨c,d⟩)
      ·exact .inl h
      ·exact .inr<|.inl ⟨c.symm,d.symm⟩
      ·exact .inr<|.inr ⟨d.symm,c.symm⟩
     ·rintro (h | ⟨c,d⟩ | ⟨c,d⟩)
      ·exact .inl<|.inl h
      ·exact .inl<|.inr ⟨c.symm,d.symm⟩
      ·exact .inr ⟨d.symm,c.symm⟩
    | _::_::_::q=>simp
   rw[hp];constructor
   ·rintro ((h | h) | ⟨q,c,d⟩)
    ·exact .inl h
    ·exact .inr ⟨p,by simp,h⟩
    ·exact .inr ⟨q,by simp[c],d⟩
   ·rintro (h | ⟨q,c,d⟩)
    ·exact .inl<|.inl h
    ·rcases zf3.1 c with rfl | c
     ·exact .inl<|.inr d
     ·exact .inr ⟨q,c,d⟩
 unfold dJ;rw[key];simp[fj]
theorem BM {a b:List (Int×List Int)}(h:a.Perm b):(jy<|dJ a).length=(jy<|dJ b).length:=by
 have hr:∀ (a b:List (Int×List Int)),a.Perm b→∀ x,Rch (jY<|dJ a) 0 x→Rch (jY<|dJ b) 0 x:=by
  intro a b h x f;refine f.mono (fun u l hl y e=>⟨_,I,?_⟩) (fun _ _=>by simp[jY]);simp only[jY,zg9] at hl;subst hl;rw[lv] at e ⊢;obtain ⟨p,hp,g⟩:=e;exact⟨p,h.subset hp,g⟩
 have hc:∀ d:List (Int×List Int),nW d []<d.length+1:=fun d=>zl1<|zc6 _ _;have c:∀ (q:List (Int×List Int)) (x:Int),x∈jy (dJ q)↔Rch (jY<|dJ q) 0 x:=fun q x=>vX (cnt:=nW<|dJ q) (fun v v' h=>jJ h) (ll _) (hc _) (by simp[jY]) x;refine List.Perm.length_eq ((List.perm_ext_iff_of_nodup (jI _ _ _ _<|by simp)<|jI _ _ _ _<|by simp).2 fun x=>?_);exact (c a x).trans<|Iff.trans ⟨hr a b h x,hr b a h.symm x⟩ (c b x).symm
theorem xx (E:World)(g:PH)(s:Own)(v:Value)(tl:List Cl)(c:Cl)(r:Rc)(hv:Tab g v tl)(hc:ak g c r)(p6:AOk tl c) :
  Ctr Tryz.prog E 57 #[v,rcv r] g s (fun r g' s'=>r=vi (bD tl c)∧g=g'∧s=s'):=by
 obtain ⟨b,mt,iv,rs,rfl,hb,hm,hI,l0⟩:=hv;obtain ⟨N,rd,B,rn,d⟩:=r;have d5:SlA encSide g (.slice B rn d) c.sides:=hc.2.2;have p7:rn=c.sides.length:=zc2 d5;have p9:rd=c.dim:=hc.2.1;subst p7 p9;obtain ⟨u7,q0,l1⟩:=p6;have q1:=fun h=>d5.based h;refine zb2 (args:=[pp b 0,rcv ⟨N,c.dim,B,c.sides.length,d⟩]) func57 I ntmps57 (bE I)<|rZ (bW (bO I) fun i=>?_);refine aT I<|rZ<|lW (SO.mkMap) ?_;rintro _ _ _ ⟨mz,rfl,rfl,rfl⟩;refine lW (SO.mkMap) ?_;rintro _ _ _ ⟨J,rfl,rfl,rfl⟩;refine lA I<|aT I<|SC.cut (ι:=List (Int×Int)×Ms) (fun _=>[(3,pp i 0),(5,.map<|some mz),(6,.map<|some J)]) (fun _=>g) (fun q=>mp J (jB q.2)::mp mz (fX q.1)::pt i (bY #[vi N,vi c.dim,.slice B c.sides.length d] 37)::(fV q.2++s))
  (fun q=>q.1=fx tl c.sides∧ig q.2=e8 tl c.sides∧∀ t∈q.2,t.2.2.length≤4096) ?_ ?_
 ·refine rZ<|lU (fA ao I aH I)<|lK (qL bi I<|cO 2 I I)<|lU (eN a7 I)<|lM I<|tZ<|bK<|oP (ι:=Nat×List (Int×Int)×Ms) (fun q=>[(0,pp b 0),(3,pp i 0),(5,.map<|some mz),(6,.map<|some J),(21,.slice B c.sides.length d),(22,vi c.sides.length),(23,vi q.1)]) (fun _=>g)
   (fun q=>mp J (jB q.2.2)::mp mz (fX q.2.1)::pt i (bY #[vi N,vi c.dim,.slice B c.sides.length d] 37)::(fV q.2.2++s))
   (fun q=>q.1≤c.sides.length∧q.2.1=fx tl (c.sides.take q.1)∧ig q.2.2=e8 tl (c.sides.take q.1)∧(∀ p∈q.2.1,-((64 * q.1:Nat):Int)≤p.2∧p.2≤((64 * q.1:Nat):Int))∧∀ t∈q.2.2,t.2.2.length≤64 * q.1) (fun q=>c.sides.length - q.1)
   (0,[],[]) sB rfl rfl ⟨zf8 _,by simp[fx],by simp[e8,ig],by simp,by simp⟩ ?_
  rintro ⟨k,d6,l2⟩ ⟨hk,C,b5,c5,V⟩;dsimp only at hk C b5 c5 V ⊢;refine rZ<|yL I<|tZ<|sQ<|iP I (fun q2=>?_) (fun q2=>?_)
  ·have d7:k<c.sides.length:=oM;have q3:=q1 oM;have q4:c.sides[((k:Nat):Int).toNat]?=some c.sides[k]:=List.getElem?_eq_getElem d7;have l3:c.sides.take (k+1)=c.sides.take k++[c.sides[k]]:=tS d7;have l4:c.sides[k]∈c.sides:=gM d7;have m1:(c.sides.take k).length=k:=by simp;omega
   generalize c.sides[k]=y at *;obtain ⟨x,q5,v0,q6⟩:=dE l0 gW y.cell;obtain ⟨xi,xd,xp,xn,xc⟩:=x;have b6:SlA encSide g (.slice xp xn xc) (ay tl y):=q6.2.2;have q7:xn=(ay tl y).length:=zc2 b6;subst q7;have m2:=q0 y l4;obtain ⟨q8,m3⟩:=l1 y l4;generalize d8:ay tl y=sy at b6 q8 m3;refine kP (tN<|sQ<|bK<|sW I<|lU (iA a7 aR I I q3 oM sL)<|lK (SQ.elemA iU aR I d5.rd q4)<|bW (aL zm1) fun b8=>?_);refine lA I<|oZ (sK 0 aR I I I I I sB)<|tZ<|sQ<|dW [] [(0,2),(1,2),(2,2),(3,1),(4,2),(5,1),(6,1),(7,2),(8,2),(9,2)] ze5 kR<|yM I<|pU I (nC I)<|pU I (fA qJ I qd I)<|pK I (qL qf I<|cK hb I)<|pU I (fA de I zT3 I)<|pK I (qL iT3 I<|cO 0 I I)<|pK I (SQ.eq (v':=rcv ⟨xi,xd,xp,sy.length,xc⟩) (SQ.lookup mty64 I I<|bh.known hm)<|by rw[q5,d8]) ?_;refine pU I (SU.field ao I bi I I)<|pU I (eN a7 I)<|yM I<|pN<|tN<|bK ?_;refine oP (ι:=Nat×List (Int×Int)×Ms) (fun q=>[(0,pp b 0),(3,pp i 0),(5,.map<|some mz),(6,.map<|some J),(7,vi k),(8,pp b8 0),(21,.slice B c.sides.length d),(22,vi c.sides.length),(23,vi k),(35,.slice xp sy.length xc),(36,vi sy.length),(37,vi q.1)]) (fun _=>g)
    (fun q=>pt b8 (bY #[vi y.cell,vi y.sign] 80)::mp J (jB q.2.2)::mp mz (fX q.2.1)::pt i (bY #[vi N,vi c.dim,.slice B c.sides.length d] 37)::(fV q.2.2++s))
    (fun q=>q.1≤sy.length∧q.2.1=(sy.take q.1).foldl (jM y) d6∧ig q.2.2=(sy.take q.1).foldl (fg k) (e8 tl<|c.sides.take k)∧(∀ p∈q.2.1,-((64 * k+q.1:Nat):Int)≤p.2∧p.2≤((64 * k+q.1:Nat):Int))∧∀ t∈q.2.2,t.2.2.length≤64 * k+q.1) (fun q=>sy.length - q.1)
    (0,d6,l2) sB rfl rfl ⟨zf8 _,by simp,by simp[b5],by simpa using c5,by simpa using V⟩ ?_
   rintro ⟨j,W,ms⟩ ⟨hj,hz,Q,b7,d9⟩;dsimp only at hj hz Q b7 d9 ⊢;refine rZ<|yL I<|tZ<|sQ<|iP I (fun m4=>?_) (fun m4=>?_)
   ·have e0:j<sy.length:=oM;have q9:=b6.based oM;have n0:sy[((j:Nat):Int).toNat]?=some sy[j]:=List.getElem?_eq_getElem e0;have n1:sy.take (j+1)=sy.take j++[sy[j]]:=tS e0;have n2:=m3 _ (gM e0);generalize sy[j]=z at *;obtain ⟨e1,X,u,K,L,e4,e9,f7,f8,g9⟩:=Gt ms z.cell;have c6:=f8 _ d9;have h0:=c6 _ (zg4 L);dsimp only at h0;have v1:=mY oM b7 z.cell;have v2:=sw m2 n2;refine SC.to (fun w hw=>g9 E g [pt b8 (bY #[vi y.cell,vi y.sign] 80),mp J (jB ms),mp mz (fX W),pt i (bY #[vi N,vi c.dim,.slice B c.sides.length d] 37)] s w hw) ?_;refine kP (tN (sQ (bK (rZ (lU (iA a7 aR I I q9 oM sL) (lK (SQ.elemA iU aR I b6.rd n0) (bW (aL zm1) fun v3=>?_)))))));refine oZ (sK 0 aR I I I I I sB)<|tZ (sW I (lU (fA de I zT3 I) (lK (qL iT3 I (cO 0 I I)) (lK (SQ.eq (v':=vi (eU W z.cell)) (SQ.lookup mty128 I I (bh.own 3 I)) (lz W _)) (lU (fA de I zT3 I) (lK (qL iT3 I (cO 1 I I)) (lU (fA de I zT3 I) (lK (qL iT3 I (cO 0 I I)) (lU (SU.mul (m:=y.sign) (n:=z.sign) I I oM) (lU (aD (m:=eU W z.cell) (n:=y.sign * z.sign) I I oM) (lO (SO.mapUpdate 3 mty128 I I I I) ?_)))))))))));rintro _ _ _ ⟨rfl,rfl⟩;rw[s9];refine tZ<|SC.drawT 5 [10] [(0,2),(1,2),(2,1),(3,2),(4,2),(5,1),(6,1),(7,2),(8,0),(9,0),(10,0)] ze5 kR<|yM rfl (pU rfl (fA de rfl zT3 rfl) (pK rfl (qL iT3 rfl (cO 0 rfl rfl)) (yM rfl (pU rfl (fA de rfl zT3 rfl) (pK rfl (qL iT3 rfl (cO 0 rfl rfl)) (pK rfl (SQ.eq (SQ.lookup mty153 rfl rfl (bh.own 2 rfl)) e4) (yM rfl (SP.o rfl (bS sty32 rfl rfl rfl (ab sB) dC) dC (.inr (by rintro _ _ _ ⟨r0,rfl,rfl,rfl⟩;exact⟨by exact zb9 _,(by exact .cons _ (List.take_sublist _ _))⟩)) ?_))))))));rintro _ _ _ ⟨r0,rfl,rfl,rfl⟩;refine SP.o I (SO.app1 (X+5) ((K++[(k:Int)]).flatMap encInt.enc) (K++[(k:Int)]).length sty32 I I I (sH L s) I ⟨I,trivial⟩ (by simp[encInt];rfl) dO lN lN) dC (.inr (by rintro u' _ _ ⟨rfl,rfl⟩;exact⟨by exact zb9 _,(by exact j3 _ _ _ _)⟩)) ?_;rintro u' _ _ ⟨rfl,rfl⟩;refine SP.on I (SO.mapUpdate 2 mty153 I I I I) (.inl dC) ?_;rintro _ _ _ ⟨rfl,rfl⟩;refine pN (bN (tN (rG (yD I (lM I (SL.nil ?_))))));refine dR (s':=pt b8 (bY #[vi y.cell,vi y.sign] 80)::mp J (jB (e1.set X (z.cell,u',K++[(k:Int)])))::mp mz (fX (fw W z.cell (y.sign * z.sign)))::pt i (bY #[vi N,vi c.dim,.slice B c.sides.length d] 37)::(fV (e1.set X (z.cell,u',K++[(k:Int)]))++s)) (by
     rw[← e9 u' k,← sG (v':=u') (l':=K++[(k:Int)]) L s];exact .cons _ (.refl _)) ?_
    exact ST.again (j+1,fw W z.cell (y.sign * z.sign),e1.set X (z.cell,u',K++[(k:Int)])) sB I I ⟨lN,by rw[n1,zj2,← hz];rfl,by rw[n1,zj2,← Q,f7];rfl,by
      have:=m8 oM b7 z.cell (x:=y.sign * z.sign) oM;intro p hp;have:=this p hp;dsimp only at *;omega,fun t f=>by
      dsimp only at *
      rcases List.mem_or_eq_of_mem_set f with h | h
      ·have:=c6 t h;omega
      ·subst h;simp;omega⟩ lN
   ·refine xI (tX (tX (bX (bN (tN (rG (yD I (lM I (SL.nil ?_)))))))));have r1:sy.take j=sy:=tL oM;rw[r1] at hz Q;refine dR (s':=mp J (jB ms)::mp mz (fX W)::pt i (bY #[vi N,vi c.dim,.slice B c.sides.length d] 37)::(fV ms++s)) (.cons _ (.refl _)) ?_;exact ST.again (k+1,W,ms) sB I I ⟨lN,by rw[l3,qP,d8,← C];exact hz,by rw[l3,B7,d8,m1];exact Q,by
      intro p hp;have:=b7 p hp;dsimp only at *;omega,fun t f=>by have:=d9 t f;dsimp only at *;omega⟩ lN
  ·refine xI<|tX<|tX<|bX ?_;have r2:c.sides.take k=c.sides:=tL oM;rw[r2] at C b5;exact za9 (d6,l2) sB I I ⟨C,b5,fun t f=>by have:=V t f;omega⟩
 ·rintro ⟨W,ms⟩ ⟨hz,Y,Z⟩;dsimp only at hz Y Z ⊢;refine cP (zk3 _ _ _) (SC.freezeMap fun g1 r3 r4=>?_);refine SC.freezeMap fun g2 n3 Q=>?_;refine cP List.perm_middle.symm (SC.freezeRows fun g3 h3 h4=>?_);obtain ⟨n5,n6,a0,a1⟩:=r4.mono<|n3.trans h3;obtain ⟨R,D,a2,O⟩:=Q.mono h3;have a3:=r3.trans<|n3.trans h3;have u8:ms.length≤4096:=by
   have h1:=wZ (tl:=tl) (l:=c.sides) (fun x hx=>(l1 x hx).1);rw[← Y] at h1;have h2:(ig ms).length=ms.length:=by simp[ig]
   omega
  refine sQ<|sW I<|lW (SO.range underlying128 I a0) ?_;rintro _ _ _ ⟨it,rfl,rfl,rfl⟩;refine tZ<|bK<|oP (ι:=List MapEntry×List (Int×Value)) (fun _=>[(3,pp i 0),(6,.map<|some J),(64,pp it 0)]) (fun _=>g3)
   (fun q=>iter it mz n5 n6 q.1::pt i (bY #[vi N,vi c.dim,.slice B c.sides.length d] 37)::s)
   (fun q=>lT (fX W) n5 q.1 q.2∧∀ p∈q.2,p.2=vi 0) (fun q=>W.length - q.2.length) ([],[]) sB rfl rfl ⟨lT.nil _ _,by simp⟩ ?_
  rintro ⟨vis,vl⟩ ⟨n7,h5⟩;dsimp only at n7 h5 ⊢;refine rZ<|lW (SO.nextP 0 I I a0 a1 n7) ?_;rintro _ _ _ ⟨rfl,h6⟩
  rcases h6 with ⟨rfl,rfl,h7⟩ | ⟨e,pr,he,a4,r5,r6,c7,rfl,rfl⟩
  ·have C:(fx tl c.sides).any (fun p=>decide (p.2≠0))=false:=by
    rw[zk7];intro p hp;rw[← hz] at hp;have:=h5 (p.1,vi p.2)<|h7.symm.subset<|zf4.2 ⟨p,hp,rfl⟩;simpa using this
   refine yX I<|tZ<|sQ<|za1 I<|xI<|tX<|tX<|bX<|tN<|sQ<|SC.drop (s':=pt i (bY #[vi N,vi c.dim,.slice B c.sides.length d] 37)::s) (.cons _<|.refl _)<|rG<|lW (SO.mkMap) ?_;rintro _ _ _ ⟨mj,rfl,rfl,rfl⟩;refine bW (aL zeroValue153) fun F=>oZ (sK 0 sizeOf153 I I I I I sB)<|tZ<|sQ<|sW I<|lW (SO.range underlying153 I a2) ?_;rintro _ _ _ ⟨S,rfl,rfl,rfl⟩;refine tZ<|bK<|oP (ι:=List MapEntry×List (Int×Value)×Ms×Ms) (fun _=>[(3,pp i 0),(13,pp F 0),(73,pp S 0)]) (fun _=>g3)
    (fun q=>iter S J R D q.1::pt F (bY #[.map<|some mj] 153)::mp mj (jB q.2.2.2)::pt i (bY #[vi N,vi c.dim,.slice B c.sides.length d] 37)::(fV q.2.2.2++s))
    (fun q=>lT (jB ms) R q.1 q.2.1∧q.2.1=jB q.2.2.1∧(∀ t∈q.2.2.1,t∈ms∧t.2.2.length=2)∧ig q.2.2.2=dJ (ig q.2.2.1)∧∀ t∈q.2.2.2,t.2.2.length≤2 * q.2.2.1.length) (fun q=>ms.length - q.2.1.length) ([],[],[],[]) sB rfl rfl ⟨lT.nil _ _,rfl,by simp,rfl,by simp⟩ ?_
   rintro ⟨G,r7,vt,js⟩ ⟨a5,P,b9,h8,h9⟩;dsimp only at a5 P b9 h8 h9 ⊢;have u9:vt.length≤ms.length:=by have:=a5.len O;rw[P] at this;simpa [jB] using this
   refine rZ<|lW (SO.nextP 0 I I a2 O a5) ?_;rintro _ _ _ ⟨rfl,c0⟩
   rcases c0 with ⟨rfl,rfl,c1⟩ | ⟨e2,v4,r8,r9,s2,t0,c9,rfl,rfl⟩
   ·have n8:(ig vt).Perm (e8 tl c.sides):=by
     rw[← Y];have hn:(ms.map fun t=>t.1).Nodup:=by
      have:=kB tl c.sides;rw[← Y] at this;simpa [ig,zi7,Function.comp_def] using this
     have h1:=c1.map Prod.fst;rw[P] at h1;simp only[jB,zi7,Function.comp_def] at h1;exact (wS (fun t=>t.1) (fun t f=>(b9 t f).1) h1 hn).map _
    have d0:(e8 tl c.sides).any (fun p=>decide ((p.2.length:Int)≠2))=false:=by
     rw[zk7];intro p hp;obtain ⟨t,f,rfl⟩:=zf4.1<|n8.symm.subset hp;have:=(b9 t f).2;simp[this]
    have i0:∀ t∈js,t.2.2.length<1099511627776:=fun t f=>by
     have h1:=h9 t f;omega
    refine yX I (tZ<|sQ<|za1 I<|xI<|tX<|tX<|bX<|tN<|sQ<|SC.drop (.cons _<|.refl _)<|SC.freeze fun g4 t1 o1=>?_);refine SC.freezeMap fun g5 o2 t2=>?_;refine cP List.perm_middle.symm (SC.freezeRows fun g6 i1 c2=>?_);refine rG<|lW (SO.mkMap) ?_;rintro _ _ _ ⟨sm,rfl,rfl,rfl⟩;refine bW (aL zeroValue96) fun p0=>oZ (sK 0 sizeOf96 I I I I I ⟨I,trivial⟩) (zb5 fun g7 c3 d1=>?_);refine tZ (rZ<|bW (aL zeroValue148) fun p1=>?_);refine tZ (rZ<|lU (SU.mkFunc I)<|oZ (sK 0 sizeOf148 I I I I I ⟨I,trivial⟩)<|zb5 fun g8 T d2=>?_);refine tZ<|rZ<|lK (qL isAgg148 I<|cK d2 I)<|lW (SO.callV I I<|cU.mk (cap:=[pp p0 0,pp F 0,pp p1 0]) call110<|zo E g8 p0 F p1 sm mj js (t2.mono<|i1.trans<|c3.trans T) (fun t f=>(c2 t f).mono<|c3.trans T) i0 (T _ _ d1) ((o2.trans<|i1.trans<|c3.trans T) _ _ o1) d2 ((ig js).length+1) 0 [] _ 0 (zl1<|zc6 _ _) I) ?_;rintro _ _ _ ⟨rfl,rfl⟩;refine tZ<|sQ<|rZ<|lK (qL isAgg96 I<|cK (T _ _ d1) I)<|lK (SQ.lenMap underlying96 I<|bh.own 0 I)<|lU (fA ao I aH I)<|lK (qL bi I<|cO 1 I I)<|lU (eN a7 I)<|lU (nQ I I)<|tZ ?_;have i2:(iw<|dfs (jY<|ig js) ((ig js).length+1) 0 []).length=(jy<|dJ<|e8 tl c.sides).length:=by
     rw[← BM n8,← h8];simp[iw,jy]
    rw[i2];have a9:=a3.trans<|t1.trans<|o2.trans<|i1.trans<|c3.trans T;refine iP I (fun M=>?_) (fun M=>?_)
    ·exact rZ<|aT I<|rE<|tR<|dR (s':=s) (.cons _<|.cons _<|.refl _)<|ST.less a9<|za8 (.inl I) results57 I ⟨by unfold bD;rw[zg2 (by rw[C];exact Bool.false_ne_true),zg2 (by rw[d0];exact Bool.false_ne_true),zg3 M],I,I⟩
    ·exact kP<|tN<|rZ<|aT I<|rE<|dR (s':=s) (.cons _<|.cons _<|.refl _)<|ST.less a9<|za8 (.inl I) results57 I ⟨by unfold bD;rw[zg2 (by rw[C];exact Bool.false_ne_true),zg2 (by rw[d0];exact Bool.false_ne_true),zg2 M],I,I⟩
   ·obtain ⟨⟨tk,tv,b0⟩,f,rfl⟩:=zf4.1 r9;have H:dp g3 tv b0:=h4 _ f;have v5:b0.length≤4096:=Z _ f;obtain ⟨tp,tc,rfl⟩:=za4 H;refine yX I<|tZ<|sQ<|za2 I<|kP<|tN<|bK<|rZ<|lK (SQ.entryP 0 I I a2 O r8 s2 t0)<|yX I<|aT I<|sQ<|sW I<|lU (eN az I)<|lU (nQ I I)<|tZ<|iP I (fun b1=>?_) (fun b1=>?_)
    ·refine rZ<|aT I<|rE<|tR<|bR<|tR<|bR<|tR<|dR (s':=s) (.cons _<|.cons _<|.cons _<|.cons _<|List.sublist_append_right _ _)<|ST.less a3 ?_;have b2:(e8 tl c.sides).any (fun p=>decide ((p.2.length:Int)≠2))=true:=by
      rw[← Y,zk1];exact⟨(tk,b0),zf4.2 ⟨_,f,I⟩,by simpa using b1⟩
     exact za8 (.inl I) results57 I ⟨by unfold bD;rw[zg2 (by rw[C];exact Bool.false_ne_true),zg3 b2],I,I⟩
    ·obtain ⟨a,A,rfl⟩:∃ a A,b0=[a,A]:=by
      match b0,b1 with
      | [],h=>exact absurd dO h
      | [_],h=>exact absurd dO h
      | [a,A],_=>exact⟨a,A,rfl⟩
      | _::_::_::q,h=>exact absurd (by simp only[zf1];omega) h
     have U:=za6 H dO;obtain ⟨b4,X,u0,K,L,e4,e9,f7,f8,g9⟩:=Gt js a;have d3:=f8 _ h9;have h0:=d3 _ (zg4 L);dsimp only at h0;refine kP (tN (sQ ?_));refine SC.to (fun w hw=>g9 E g3 [iter S J R D (G++[e2]),pt F (bY #[.map (some mj)] 153),mp mj (jB js),pt i (bY #[vi N,vi c.dim,.slice B c.sides.length d] 37)] s w hw) ?_;refine SC.drawT 4 [14] [(0,1),(1,2),(2,2),(3,1),(4,1),(5,2),(6,2),(7,1),(8,1),(9,2),(10,2),(11,1),(12,0),(13,0),(14,0)] ze5 kR<|pK I (qL isAgg153 I (cO 1 I I)) (yM I (pU I (iA az zT3 I I U dC (show (0:Int)<((2:Nat):Int) by decide)) ?_));refine pK I (eB iT3 I (za7 H) (j:=0) I I) (pK I (qL isAgg153 I (cO 1 I I)) (yM I (pU I (iA az zT3 I I U dC (show (0:Int)<((2:Nat):Int) by decide)) ?_)));refine pK I (eB iT3 I (za7 H) (j:=0) I I) (pK I (SQ.eq (SQ.lookup mty153 I I (bh.own 2 I)) e4) (yM I (pU I (iA az zT3 I I U dC (show (1:Int)<((2:Nat):Int) by decide)) ?_)));refine pK rfl (eB iT3 rfl (za7 H) (j:=1) rfl rfl) (SP.o rfl (bS sty32 rfl rfl rfl (ab sB) dC) dC (.inr (by rintro _ _ _ ⟨t3,rfl,rfl,rfl⟩;exact⟨by exact zb9 _,(by exact .cons _ (List.take_sublist _ _))⟩)) ?_);rintro _ _ _ ⟨t3,rfl,rfl,rfl⟩;refine SP.o I (SO.app1 (X+4) ((K++[A]).flatMap encInt.enc) (K++[A]).length sty32 I I I (sH L s) I ⟨I,trivial⟩ (by simp[encInt];rfl) dO lN lN) dC (.inr (by rintro u1 _ _ ⟨rfl,rfl⟩;exact⟨by exact zb9 _,(by exact j3 _ _ _ _)⟩)) ?_;rintro u1 _ _ ⟨rfl,rfl⟩;refine SP.on I (SO.mapUpdate 2 mty153 I I I I) (.inl dC) ?_;rintro _ _ _ ⟨rfl,rfl⟩;refine pN (tN (SC.drop (s':=[iter S J R D (G++[e2]),pt F (bY #[.map (some mj)] 153),mp mj (jB (b4.set X (a,u1,K++[A]))),pt i (bY #[vi N,vi c.dim,.slice B c.sides.length d] 37)]++(fV (b4.set X (a,u1,K++[A]))++s)) (by rw[← e9 u1 A,← sG (v':=u1) (l':=K++[A]) L s];exact .refl _) ?_));have p2:∀ t∈(b4.set X (a,u1,K++[A])),t.2.2.length≤2 * vt.length+1:=fun t f=>(by rcases List.mem_or_eq_of_mem_set f with h | h;(have:=d3 t h;omega);(subst h;simp;omega));obtain ⟨i3,j1,u2,lw,a4,p3,t4,t5,t9,u4⟩:=Gt (b4.set X (a,u1,K++[A])) A;have d4:=t9 _ p2;have u5:=d4 _ (zg4 a4);dsimp only at u5;refine SC.to (fun w hw=>u4 E g3 [iter S J R D (G++[e2]),pt F (bY #[.map (some mj)] 153),mp mj (jB (b4.set X (a,u1,K++[A]))),pt i (bY #[vi N,vi c.dim,.slice B c.sides.length d] 37)] s w hw) ?_;refine SC.drawT 4 [14] [(0,1),(1,2),(2,2),(3,1),(4,1),(5,2),(6,2),(7,1),(8,1),(9,2),(10,2),(11,1),(12,0),(13,0),(14,0)] ze5 kR ?_;refine pK I (qL isAgg153 I (cO 1 I I)) (yM I (pU I (iA az zT3 I I U dC (show (1:Int)<((2:Nat):Int) by decide)) ?_));refine pK I (eB iT3 I (za7 H) (j:=1) I I) (pK I (qL isAgg153 I (cO 1 I I)) (yM I (pU I (iA az zT3 I I U dC (show (1:Int)<((2:Nat):Int) by decide)) ?_)));refine pK I (eB iT3 I (za7 H) (j:=1) I I) (pK I (SQ.eq (SQ.lookup mty153 I I (bh.own 2 I)) p3) (yM I (pU I (iA az zT3 I I U dC (show (0:Int)<((2:Nat):Int) by decide)) ?_)));refine pK rfl (eB iT3 rfl (za7 H) (j:=0) rfl rfl) (SP.o rfl (bS sty32 rfl rfl rfl (ab sB) dC) dC (.inr (by rintro _ _ _ ⟨p5,rfl,rfl,rfl⟩;exact⟨by exact zb9 _,(by exact .cons _ (List.take_sublist _ _))⟩)) ?_);rintro _ _ _ ⟨p5,rfl,rfl,rfl⟩;refine SP.o I (SO.app1 (j1+4) ((lw++[a]).flatMap encInt.enc) (lw++[a]).length sty32 I I I (sH a4 s) I ⟨I,trivial⟩ (by simp[encInt];rfl) dO lN lN) dC (.inr (by rintro u3 _ _ ⟨rfl,rfl⟩;exact⟨by exact zb9 _,(by exact j3 _ _ _ _)⟩)) ?_;rintro u3 _ _ ⟨rfl,rfl⟩;refine SP.on I (SO.mapUpdate 2 mty153 I I I I) (.inl dC) ?_;rintro _ _ _ ⟨rfl,rfl⟩;refine pN (bN (dR (s':=[iter S J R D (G++[e2]),pt F (bY #[.map (some mj)] 153),mp mj (jB (i3.set j1 (A,u3,lw++[a]))),pt i (bY #[vi N,vi c.dim,.slice B c.sides.length d] 37)]++(fV (i3.set j1 (A,u3,lw++[a]))++s)) (by rw[← t4 u3 a,← sG (v':=u3) (l':=lw++[a]) a4 s];exact .refl _) ?_));exact ST.again (G++[e2],r7++[(tk,.slice tp 2 tc)],vt++[(tk,.slice tp 2 tc,[a,A])],i3.set j1 (A,u3,lw++[a])) sB I I ⟨c9,by rw[P];simp[jB],fun t j2=>by
       rcases zf5.1 j2 with h | h
       ·exact b9 t h
       ·simp at h;subst h;exact⟨f,I⟩,by rw[t5,f7,h8];simp[dJ,ig,lx],fun t j2=>by
       simp only[ze7,ze9]
       rcases List.mem_or_eq_of_mem_set j2 with h | h
       ·have:=d4 t h;omega
       ·subst h;simp;omega⟩ (by
       have:=c9.len O;simp only[jB,ze8,ze7,ze9] at this ⊢;omega)
  ·obtain ⟨zp,u6,rfl⟩:=zf4.1 a4;refine yX I<|tZ<|sQ<|za2 I<|kP<|tN<|bK<|rZ<|lK (SQ.entryP 0 I I a0 a1 he r5 r6)<|yX I<|aT I<|sW I<|lU (nQ I I)<|tZ<|iP I (fun M=>?_) (fun M=>?_)
   ·refine rZ<|aT I<|rE<|bR<|tR<|bR<|tR<|dR (s':=s) (.cons _<|.cons _<|.refl _)<|ST.less a3 ?_;have b2:(fx tl c.sides).any (fun p=>decide (p.2≠0))=true:=by
     rw[← hz,zk1];exact⟨zp,u6,by simpa using M⟩
    exact za8 (.inl I) results57 I ⟨by unfold bD;rw[zg3 b2],I,I⟩
   ·refine kP (bN ?_);exact ST.again (vis++[e],vl++[(zp.1,vi zp.2)]) sB I I ⟨c7,fun p hp=>by
     rcases zf5.1 hp with h | h
     ·exact h5 p h
     ·simp at h;subst h;have:zp.2=0:=by simpa using M
      simp[this]⟩ (by
     have:=c7.len a1;simp only[fX,ze8,ze7,ze9] at this ⊢;omega)
def iC (tl:List Cl):List Cl→Int→Option (Int×Int)
 | [],_=>none
 | x::r,last=>if x.id≤last then some (x.id,20) else if cN tl x≠0 then some (x.id,cN tl x) else iC tl r x.id
def nX (tl:List Cl):List Cl→Option (Int×Int)
 | []=>none
 | x::r=>if x.dim>1∧bD tl x≠0 then some (x.id,bD tl x) else nX tl r
def aq (l:List Cl):Int×Int:=if (l.length:Int)>4000 then (0,2) else (iC (am l) (aa l) 0).getD ((nX (am l)<|aa l).getD (0,0))
theorem i9 {tl:List Cl}{c:Cl}(h:cN tl c=0):c.sides.length≤64∧∀ x∈c.sides,x.sign=1∨x.sign = -1:=by
 unfold cN at h;split at h
 ·simp at h
 ·rename_i b;split at h
  ·simp at h
  ·rename_i a;split at h
   ·simp at h
   ·split at h
    ·simp at h
    ·rename_i d;refine⟨?_,fun x i=>?_⟩
     ·simp[fM] at b;simp[aO] at a
      rcases Int.lt_trichotomy c.dim 1 with h | h | h
      ·have:c.dim=0:=oM;have:=a.1.1 this;simp[this]
      ·have:=a.1.2 h;omega
      ·have:=a.2 h;omega
     ·have e:c.sides.any bZ=false:=by simpa using d
      rw[zk7] at e;have f:=e x i;simp only[bZ,zj5,zj7,ne_eq,not_and,Decidable.not_not] at f;by_cases g:x.sign=1
      ·exact .inl g
      ·exact .inr<|f g
theorem mh {tl:List Cl}:∀ {l:List Cl} {last:Int},iC tl l last=none→∀ x∈l,cN tl x=0
 | [],_,_,x,a=>by simp at a
 | y::r,last,h,x,a=>by
  unfold iC at h;split at h
  ·simp at h
  ·split at h
   ·simp at h
   ·rename_i b
    rcases zf3.1 a with rfl | a
    ·exact zh2 b
    ·exact mh h x a
theorem AO {l:List Cl}(h:∀ x∈aa l,cN (am l) x=0){c:Cl}(hc:c∈aa l):AOk (am l) c:=by
 obtain ⟨a,b⟩:=i9<|h c hc;refine⟨a,b,fun x e=>?_⟩;unfold ay;cases d:ag (am l) x.cell with
 | none=>simp[aA]
 | some y=>exact i9<|h y<|sk (aJ d).1
theorem m0 (E:World)(g:PH)(s:Own)(v:Value)(l:List Cl)(S:ai g v l)(R:aM l) :
  Ctr Tryz.prog E 17 #[.agg #[v]] g s (fun r g' s'=>r = .tuple #[vi (aq l).1,vi (aq l).2]∧g=g'∧s=s'):=by
 have L:=aB R;have a1:=R.1;obtain ⟨p,K,T⟩:=S.form;subst T;refine zb2 (args:=[.agg #[.slice p l.length K]]) func17 I ntmps17 (bE I)<|rZ (bW (bO I) fun M=>?_);refine lA I<|aT I<|sQ<|rZ<|lU (fA dA I cq I)<|lK (qL eG I<|cO 0 I I)<|lU (eN aF I)<|lU (gR I I)<|tZ<|iP I (fun n=>?_) (fun n=>?_)
 ·exact rZ<|lA I<|aT I<|rE<|tR<|dR (s':=s) uR<|ST.ret2 (.inl I) results17 I I ⟨by unfold aq;rw[zg3 n],I,I⟩
 ·refine kP<|tN<|rZ<|lK (qV 0 an ae I I I)<|lW (SO.call call36 I<|n9 E g _ _ l S R) ?_;rintro tv g1 _ ⟨rfl,z,ht⟩;refine aT I<|rZ<|lK (qV 0 an ae I I I)<|lW (SO.call call34 I<|gU E g1 _ _ l (S.mono z) R) ?_;rintro _ g2 _ ⟨rfl,A,u,rfl,rs,o,t⟩;obtain ⟨q,d,rfl⟩:=o.form;refine lU (SU.field dA I eG I I)<|lA I<|aT I<|sQ<|sW I<|lU (eN aF I)<|lM I<|tZ<|bK ?_;have f:aq l=(iC (am l) (aa l) 0).getD ((nX (am l)<|aa l).getD (0,0)):=by unfold aq;rw[zg2 n]
  have N:=ht.mono A;have a0:=t.length;have a2:=L.1;have j:=z.trans A;refine oP (ι:=Nat×Int) (fun i=>[(4,tv),(5,vi i.2),(6,.slice q rs.length d),(22,.slice q rs.length d),(23,vi rs.length),(24,vi i.1)]) (fun _=>g2)
   (fun _=>pt M (bY #[.slice p l.length K] 29)::s) (fun i=>i.1≤rs.length∧iC (am l) (aa l) 0=iC (am l) ((aa l).drop i.1) i.2) (fun i=>rs.length - i.1) (0,0)
   sB rfl rfl ⟨zf8 _,by simp⟩ ?_
  rintro ⟨k,last⟩ ⟨hk,b⟩;dsimp only at hk b ⊢;refine rZ<|yL I<|tZ<|sQ<|iP I (fun U=>?_) (fun U=>?_)
  ·have w:k<rs.length:=oM;have c:k<(aa l).length:=oM;have B:=o.based oM;have m:=t.get (List.getElem?_eq_getElem c)<|List.getElem?_eq_getElem w;have C:rs[((k:Nat):Int).toNat]?=some rs[k]:=List.getElem?_eq_getElem w;have e:(aa l).drop k=(aa l)[k]::(aa l).drop (k+1):=zg8 c;have V:=L.2 _<|gM c;generalize rs[k]=x at *;generalize (aa l)[k]=cx at *;rw[e] at b;obtain ⟨W,xd,xv⟩:=x;have D:W=cx.id:=m.1;subst D;refine kP (tN<|sQ<|bK<|rZ<|lU (iA aF ar I I B oM sL)<|lK (SQ.elemA dH ar I o.rd C)<|bW (aL zm2) fun b8=>?_);refine oZ (sK 0 ar I I I I I sB)<|tZ<|sQ<|rZ<|lU (fA ao I zT3 I)<|lK (qL iT3 I<|cO 0 I I)<|lM I<|lU (SU.leq I I)<|tZ<|iP I (fun y=>?_) (fun y=>?_)
   ·refine rZ<|lU (fA ao I zT3 I)<|lK (qL iT3 I<|cO 0 I I)<|lA I<|aT I<|rE<|tR<|bR<|tR<|tR<|bR<|tR<|dR (s':=s) (.cons _<|.cons _<|.refl _)<|ST.less j ?_;have F:aq l=(cx.id,20):=by rw[f,b];unfold iC;rw[zg3 y];rfl
    exact ST.ret2 (.inl I) results17 I I ⟨by (rw[F];rfl),rfl,rfl⟩
   ·refine kP<|tN<|rZ<|lU (fA ao I zT3 I)<|lK (qL iT3 I<|cO 0 I I)<|aT I<|sW I<|lK (qV 0 dH ar I I I)<|lW (SO.call call56 I<|Cr E g2 _ tv (am l) cx _ N m V) ?_;rintro _ _ _ ⟨rfl,rfl,rfl⟩;refine aT I<|sW I<|lU (nQ I I)<|tZ<|iP I (fun G=>?_) (fun G=>?_)
    ·refine rZ<|lU (fA ao I zT3 I)<|lK (qL iT3 I<|cO 0 I I)<|lM I<|lA I<|aT I<|rE<|bR<|tR<|tR<|bR<|tR<|dR (s':=s) (.cons _<|.cons _<|.refl _)<|ST.less j ?_;have F:aq l=(cx.id,cN (am l) cx):=by rw[f,b];unfold iC;rw[zg2 y,zg3 G];rfl
     exact ST.ret2 (.inl I) results17 I I ⟨by (rw[F];rfl),rfl,rfl⟩
    ·exact kP<|bN<|tN<|rG<|yD I<|lM I<|SL.nil<|dR (s':=pt M (bY #[.slice p l.length K] 29)::s) (.cons _<|.refl _)<|ST.again (k+1,cx.id) sB I I ⟨lN,by rw[b];rw[iC,zg2 y,zg2 G]⟩ lN
  ·have X:(aa l).drop k=[]:=List.drop_of_length_le oM;rw[X] at b;have H:=mh b;refine xI<|tX<|tX<|bX<|tN<|sQ<|sW I<|lU (eN aF I)<|lM I<|tZ<|bK<|oP (ι:=Nat) (fun i=>[(4,tv),(45,.slice q rs.length d),(46,vi rs.length),(47,vi i)]) (fun _=>g2)
    (fun _=>pt M (bY #[.slice p l.length K] 29)::s) (fun i=>i≤rs.length∧nX (am l) (aa l)=nX (am l) ((aa l).drop i)) (fun i=>rs.length - i) 0
    sB rfl rfl ⟨zf8 _,by simp⟩ ?_
   rintro k ⟨hk,a⟩;try dsimp only
   refine rZ<|yL I<|tZ<|sQ<|iP I (fun O=>?_) (fun O=>?_)
   ·have w:k<rs.length:=oM;have c:k<(aa l).length:=oM;have B:=o.based oM;have m:=t.get (List.getElem?_eq_getElem c)<|List.getElem?_eq_getElem w;have C:rs[((k:Nat):Int).toNat]?=some rs[k]:=List.getElem?_eq_getElem w;have e:(aa l).drop k=(aa l)[k]::(aa l).drop (k+1):=zg8 c;have Y:=gM c;have P:=AO H Y;generalize rs[k]=x at *;generalize (aa l)[k]=cx at *;rw[e] at a;obtain ⟨W,xd,xv⟩:=x;have D:W=cx.id:=m.1;have Z:xd=cx.dim:=m.2.1;subst D Z;refine kP (tN<|sQ<|bK<|rZ<|lU (iA aF ar I I B oM sL)<|lK (SQ.elemA dH ar I o.rd C)<|bW (aL zm2) fun a3=>?_);refine oZ (sK 0 ar I I I I I sB)<|tZ<|rZ<|lU (fA ao I zT3 I)<|lK (qL iT3 I<|cO 0 I I)<|lU (gR I I)<|tZ<|iP I (fun J=>?_) (fun J=>?_)
    ·refine sW I<|lK (qV 0 dH ar I I I)<|lW (SO.call call57 I<|xx E g2 _ tv (am l) cx _ N m P) ?_;rintro _ _ _ ⟨rfl,rfl,rfl⟩;refine aT I<|sW I<|lU (nQ I I)<|tZ<|iP I (fun G=>?_) (fun G=>?_)
     ·refine rZ<|lU (fA ao I zT3 I)<|lK (qL iT3 I<|cO 0 I I)<|lM I<|lA I<|aT I<|rE<|bR<|tR<|tR<|bR<|tR<|dR (s':=s) (.cons _<|.cons _<|.refl _)<|ST.less j ?_;have F:aq l=(cx.id,bD (am l) cx):=by rw[f,b,a];unfold nX;rw[zg3 ⟨J,G⟩];rfl
      exact ST.ret2 (.inl I) results17 I I ⟨by (rw[F];rfl),rfl,rfl⟩
     ·exact kP<|bN<|tN<|rG<|yD I<|lM I<|SL.nil<|dR (s':=pt M (bY #[.slice p l.length K] 29)::s) (.cons _<|.refl _)<|ST.again (k+1) sB I I ⟨oM,by rw[a];rw[nX,zg2 (fun h=>G h.2)]⟩ oM
    ·exact kP<|bN<|tN<|rG<|yD I<|lM I<|SL.nil<|dR (s':=pt M (bY #[.slice p l.length K] 29)::s) (.cons _<|.refl _)<|ST.again (k+1) sB I I ⟨oM,by rw[a];rw[nX,zg2 (fun h=>J h.1)]⟩ oM
   ·have Q:(aa l).drop k=[]:=List.drop_of_length_le oM;rw[Q] at a;refine xI<|tX<|tX<|bX<|tN<|rZ<|lA I<|aT I<|rE<|dR (s':=s) (.cons _<|.refl _)<|ST.less j ?_;have F:aq l=(0,0):=by rw[f,b,a];rfl
    exact ST.ret2 (.inl I) results17 I I ⟨by (rw[F];done),I,I⟩
def lbI (l:List Int)(x:Int):Nat:=(l.filter fun y=>decide (y<x)).length
theorem GE {l:List Int}{x:Int}{i:Nat}(f:i≤l.length)(c:∀ k (h:k<l.length),k<i→l[k]<x)(d:∀ k (h:k<l.length),i≤k→x≤l[k]):lbI l x=i:=by
 unfold lbI;have e:l=l.take i++l.drop i:=(zj4 i l).symm;rw[e,zh8];have f1:(l.take i).filter (fun y=>decide (y<x))=l.take i:=by
  rw[List.filter_eq_self];intro y a;obtain ⟨k,b,rfl⟩:=zc8 a;simp at b;simpa using c k oM oM
 have f2:(l.drop i).filter (fun y=>decide (y<x))=[]:=by
  rw[List.filter_eq_nil_iff];intro y a;obtain ⟨k,b,rfl⟩:=zc8 a;simp at b;have:=d (i+k) oM oM;simp only[List.getElem_drop];simp;omega
 rw[f1,f2];simp;omega
theorem DQ {l:List Int}{x:Int}{i:Nat}(d:l.Pairwise (· ≤ ·))(f:∀ k (h:k<l.length),k<i→l[k]<x)(g:∀ k (h:k<l.length),i≤k→x≤l[k])(a:i<l.length):decide (l[i]=x)=l.contains x:=by
 rw[Bool.eq_iff_iff];simp;constructor
 ·intro e;rw[← e];exact gM a
 ·intro hm;obtain ⟨k,c,e⟩:=zc8 hm;have b:i≤k:=by
   rcases Nat.lt_or_ge k i with h | h
   ·have:=f k c h;omega
   ·exact h
  have j:=g i a<|Nat.le_refl _
  rcases Nat.eq_or_lt_of_le b with rfl | h
  ·exact e
  ·have:=zd1.1 d i k a c h;omega
theorem Dx {l:List Int}{x:Int}{i:Nat}(a:∀ k (h:k<l.length),k<i→l[k]<x)(c:¬ i<l.length):l.contains x=false:=by
 rw[Bool.eq_false_iff];intro hm;simp at hm;obtain ⟨k,b,e⟩:=zc8 hm;have:=a k b oM;omega
def dz (n:Int):Int:=1 - 2 * (n % 2)
theorem wi (n:Int):IntKind.i64.wrap ((BitVec.ofInt IntKind.i64.bits n &&& BitVec.ofInt IntKind.i64.bits 1).toNat:Int)=n % 2:=by
 have a:(BitVec.ofInt 64 n &&& BitVec.ofInt 64 1).toNat=(n % 2).toNat:=by
  rw[BitVec.toNat_and,show (BitVec.ofInt 64 1).toNat=1 from rfl,Nat.and_one_is_mod,BitVec.toNat_ofInt];omega
 show IntKind.i64.wrap ((BitVec.ofInt 64 n &&& BitVec.ofInt 64 1).toNat:Int)=n % 2;rw[a,zl2 _ oM];omega
theorem BK (E:World)(g:PH)(s:Own)(n:Int):Ctr Tryz.prog E 68 #[vi n] g s (fun r g' s'=>r=vi (dz n)∧g=g'∧s=s'):=by
 exact zb2 (args:=[vi n]) func68 I ntmps68 (bE I)<|rZ<|aT I<|sW I<|lU (SU.eq (SU.and I I)<|ze4 vi<|wi n)<|lU (SU.mul I I oM)<|lU (sU I I oM)<|aT I<|rE<|za8 (.inl I) results68 I ⟨I,I,I⟩
theorem Cs (l:List Cl):∀ acc:List Cl,∃ r,l.foldl gn acc=acc++r∧r.Sublist l:=by
 induction l with
 | nil=>intro acc;exact⟨[],by simp,.refl _⟩
 | cons c t ih =>
  intro acc;simp only[zj1];obtain ⟨r,a,b⟩:=ih<|gn acc c;unfold gn at a;unfold gn;split at a
  ·rename_i hc;rw[zg3 hc];exact⟨r,a,b.cons _⟩
  ·rename_i hc;rw[zg2 hc];exact⟨c::r,by rw[a];simp,b.cons_cons _⟩
theorem xL (l:List Cl):(am l).Sublist (aa l):=by
 obtain ⟨r,a,b⟩:=Cs (aa l) [];unfold am;rw[a];simpa using b
theorem rQ (l:List Cl):(aa l).map Cl.id=(sortBy Cl.id l).map Cl.id:=by
 unfold aa;rw[zi7];rfl
theorem jw (l:List Cl):((aa l).map Cl.id).Pairwise (· ≤ ·):=by
 rw[rQ,zk6];exact dj l
theorem fD (l:List Cl):((am l).map Cl.id).Pairwise (· ≤ ·):=(jw l).sublist ((xL l).map _)
def aY (tl ul:List Cl)(x y:Int):Int:=lbI (tl.map Cl.id) x * ul.length+lbI (ul.map Cl.id) y+1
theorem Et (l:List Int)(x:Int):lbI l x≤l.length:=zc6 _ _
theorem wW {a b:Nat}(c:a≤4000)(hb:b≤4000):(a:Int) * (b:Int)≤16000000∧0≤(a:Int) * (b:Int):=by
 have:a * b≤4000 * 4000:=Nat.mul_le_mul c hb;have e:(a:Int) * (b:Int)=((a * b:Nat):Int):=by simp
 omega
theorem Tab.ptr {g:PH}{v:Value}{tl:List Cl}(h:Tab g v tl):∃ b,v=pp b 0:=by
 obtain ⟨b,_,_,_,a,_⟩:=h;exact⟨b,a⟩
theorem CD {l:List Cl}(h:(aq l).2=0):l.length≤4000:=by
 unfold aq at h;split at h
 ·simp at h
 ·omega
theorem Tryz.buildE29 (w:World):(Instr.build 29 #[]).run Tryz.prog w = .ok (.agg #[.slice none 0 0]) w:=by
 simp[Instr.build,Instr.fill];rfl
theorem Tryz.buildC37 (x y:Int)(w:World):(Instr.build 37 #[(0,vi x),(1,vi y)]).run Tryz.prog w = .ok (.agg #[vi x,vi y,.slice none 0 0]) w:=by
 have hz:(Value.agg #[vi 0,vi 0,Value.slice none 0 0]).cells = #[vi 0,vi 0,.slice none 0 0]:=rfl;have a:∀ z:Int,(vi z).cells = #[vi z]:=fun _=>rfl;simp[Instr.build,Instr.fill,hz,a]
theorem Tryz.buildS80 (x y:Int)(w:World):(Instr.build 80 #[(0,vi x),(1,vi y)]).run Tryz.prog w = .ok (.agg #[vi x,vi y]) w:=by
 have hz:(Value.agg #[vi 0,vi 0]).cells = #[vi 0,vi 0]:=rfl;have a:∀ z:Int,(vi z).cells = #[vi z]:=fun _=>rfl;simp[Instr.build,Instr.fill,hz,a]
theorem jn {α β γ:Type}(l:List α)(m:List β)(f:α→β→γ):(l.flatMap fun x=>m.map<|f x).length=l.length * m.length:=by
 induction l with
 | nil=>simp
 | cons x t ih=>rw[zh7,ze7,ih,ze8,zf1,Nat.succ_mul];omega
theorem wG (n:Int):dz n=1∨dz n = -1:=by unfold dz;omega
def n4 (a b:List Cl):Bool:=!decide ((aq a).2=0) || !decide ((aq b).2=0)||decide ((a.length:Int) * b.length>4000)
theorem zK {a b:List Cl}(h:n4 a b=false):(aq a).2=0∧(aq b).2=0∧(a.length:Int) * b.length≤4000:=by
 simp only[n4,Bool.or_eq_false_iff,Bool.not_eq_false',zj7,decide_eq_false_iff_not] at h;exact⟨h.1.1,h.1.2,oM⟩
theorem wh {tl:List Cl}:∀ {l:List Cl} {last:Int} {p:Int×Int},iC tl l last=some p→p.2≠0
 | [],_,_,h=>by simp[iC] at h
 | y::r,last,p,h=>by
  unfold iC at h;split at h
  ·injection h with h;subst h;show (20:Int)≠0;decide
  ·split at h
   ·rename_i a;injection h with h;subst h;exact a
   ·exact wh h
theorem yq {tl:List Cl}{c:Cl}(h:cN tl c=0):0≤c.dim∧c.dim≤8:=by
 unfold cN at h;split at h
 ·simp at h
 ·rename_i a;simp[fM] at a;omega
theorem aw (l:List Cl):(aa l).length=l.length:=by simp[aa,eI]
theorem ib (l:List Cl):(am l).length≤l.length:=by
 rw[← aw l];exact (xL l).length_le
def ee (tl ul:List Cl)(x y:Cl):Cl:=⟨aY tl ul x.id y.id,x.dim+y.dim,x.sides.map (fun q=>⟨aY tl ul q.cell y.id,q.sign⟩)++y.sides.map (fun q=>⟨aY tl ul x.id q.cell,dz x.dim * q.sign⟩)⟩
def dU (a b:List Cl):List Cl:=(aa a).flatMap fun x=>(aa b).map (ee (am a) (am b) x)
def EL (a b:List Cl):List Cl:=if n4 a b then [] else if (aq<|dU a b).2=0 then aa (dU a b) else []
theorem Gj (E:World)(g:PH)(s:Own)(v:Value)(l:List Int)(a:dp g v l)(hn:l.length<17592186044416) :
  Ctr Tryz.prog E 58 #[v] g s (fun r g' s'=>g=g'∧s'=rowA encInt 3 r l::s):=by
 obtain ⟨p,c,rfl⟩:=za4 a;refine zb2 (args:=[.slice p l.length c]) func58 I ntmps58 (bE I)<|rZ<|aT I<|sQ<|sW I<|lU (SU.eqlNil az I I)<|tZ<|iQ I (fun hp=>?_) (fun hp=>?_)
 ·refine rZ<|aT I<|rE<|tR ?_;have hl:l=[]:=by
   cases l with
   | nil=>rfl
   | cons x r =>
    have hb:=za6 a dO;cases p with
    | none=>simp[based] at hb
    | some q=>simp at hp
  subst hl;exact ST.nilRow 3 1<|za8 (.inl I) results58 I ⟨I,I⟩
 ·refine kP<|tN<|rZ<|lW (bS sty32 I I I (ab trivial) dC) ?_;rintro _ _ _ ⟨b,rfl,rfl,rfl⟩;refine SL.emptyRow 3 1 (some ⟨b,0,none⟩)<|lM I<|lW (SO.appendE (m:=l.length) 0 l.length (l.flatMap encInt.enc) sty32 I I I I I (Sl.rd a) (encInt.length l) (encInt.ones l) oM dO oM oM) ?_;rintro r7 _ _ ⟨rfl,rfl⟩;exact aT I<|rE<|dR (s':=rowA encInt 3 r7 l::s) (.cons_cons _<|.cons _<|.refl _)<|za8 (.inl I) results58 I ⟨I,I⟩
def orI:List Int→Int
 | []=>0
 | a::r=>if a≠0 then a else orI r
def ii:List Int→List Int→Int
 | [],[]=>0
 | [],_::_=>-1
 | _::_,[]=>1
 | a::r,b::t=>if ij a b≠0 then ij a b else ii r t
def au (a b:List Int):Int:=if ij a.length b.length≠0 then ij a.length b.length else ii a b
theorem A8 (E:World)(g:PH)(s:Own)(v:Value)(l:List Int)(m:Rd g s v (l.flatMap encInt.enc))(n:∃ p c,v = .slice p l.length c)(hb:0<l.length→based v=true)(hl:l.length<1099511627776) :
  Ctr Tryz.prog E 98 #[v] g s (fun r g' s'=>r=vi (orI l)∧g=g'∧s=s'):=by
 obtain ⟨p,c,rfl⟩:=n;refine zb2 (args:=[.slice p l.length c]) func98 I ntmps98 (bE I)<|rZ<|aT I<|rZ<|aT I<|sQ<|sW I<|lU (eN az I)<|lM I<|tZ<|bK<|oP (ι:=Nat) (fun k=>[(3,vi 0),(6,.slice p l.length c),(7,vi l.length),(8,vi k)]) (fun _=>g) (fun _=>s) (fun k=>k≤l.length∧orI l=orI (l.drop k)) (fun k=>l.length - k) 0
  sB rfl rfl ⟨zf8 _,by simp⟩ ?_
 rintro k ⟨o,a⟩;refine rZ<|yL I<|tZ<|sQ<|iP I (fun e=>?_) (fun e=>?_)
 ·have d:k<l.length:=oM;have f:=hb oM;have i:l[((k:Nat):Int).toNat]?=some l[k]:=List.getElem?_eq_getElem d;have b:l.drop k=l[k]::l.drop (k+1):=zg8 d;generalize l[k]=x at *;rw[b] at a;refine kP<|tN<|sQ<|bK<|rZ<|lU (iA az zT3 I I f oM sL)<|lK (eB iT3 I m i I)<|aT I<|sW I<|lM I<|lU (nQ I I)<|tZ<|iP I (fun hd=>?_) (fun hd=>?_)
  ·exact sW I<|aT I<|rE<|bR<|tR<|tR<|bR<|tR<|za8 (.inl I) results98 I ⟨by rw[a,orI,zg3 hd],I,I⟩
  ·exact kP<|bN<|tN<|rG<|yD I<|lM I<|SL.nil<|ST.again (k+1) sB I I ⟨oM,by rw[a,orI,zg2 hd]⟩ oM
 ·refine xI<|tX<|tX<|bX<|tN<|sW I<|aT I<|rE ?_;have j:l.drop k=[]:=List.drop_of_length_le oM;rw[j] at a;exact za8 (.inl I) results98 I ⟨by rw[a];rfl,rfl,rfl⟩
theorem Cz (E:World)(g:PH)(s:Own)(v u:Value)(l m:List Int)(n:dp g v l)(o:dp g u m)(hl:l.length<1099511627776) :
  Ctr Tryz.prog E 65 #[v,u] g s (fun r g' s'=>r=vb (decide (l=m))∧g=g'∧s=s'):=by
 obtain ⟨p,c,rfl⟩:=za4 n;obtain ⟨q,d,rfl⟩:=za4 o;refine zb2 (args:=[.slice p l.length c,.slice q m.length d]) func65 I ntmps65 (bE I)<|rZ<|aT I<|sQ<|sW I<|lU (eN az I)<|lM I<|lU (eN az I)<|lU (nQ I I)<|tZ<|iP I (fun a=>?_) (fun a=>?_)
 ·exact rZ<|aT I<|rE<|tR<|za8 (.inl I) results65 I ⟨by have:l≠m:=fun e=>a (by rw[e]);simp[this],I,I⟩
 ·refine kP<|tN<|sQ<|sW I<|lU (eN az I)<|lM I<|tZ<|bK ?_;have b:l.length=m.length:=oM;refine oP (ι:=Nat) (fun k=>[(0,.slice p l.length c),(1,.slice q m.length d),(12,vi l.length),(13,vi k)]) (fun _=>g) (fun _=>s) (fun k=>k≤l.length∧l.take k=m.take k) (fun k=>l.length - k) 0
   sB rfl rfl ⟨zf8 _,by simp⟩ ?_
  rintro k ⟨z,f⟩;refine rZ<|yL I<|tZ<|sQ<|iP I (fun t=>?_) (fun t=>?_)
  ·have i:k<l.length:=oM;have j:k<m.length:=oM;have w:=za6 n oM;have x:=za6 o oM;refine kP<|tN<|sQ<|bK<|sW I<|aT I<|sQ<|dW [] [(0,2),(1,2),(2,2),(3,1),(4,2),(5,2),(6,2),(7,1),(8,2)] ze5 kR<|yM I<|yM I<|pU I (iA az zT3 I I w oM sL)<|pQ I (eB iT3 I (za7 n) (List.getElem?_eq_getElem i) I) dC ?_;refine yM I<|yM I<|pU I (iA az zT3 I I x oM sL)<|pQ I (eB iT3 I (za7 o) (List.getElem?_eq_getElem j) I) dC ?_;refine pU I (nQ I I)<|pN<|tN<|iP I (fun hd=>?_) (fun hd=>?_)
   ·exact rZ<|aT I<|rE<|bR<|tR<|tR<|bR<|tR<|za8 (.inl I) results65 I ⟨by have:l≠m:=fun e=>hd (by simp[e]);simp[this],I,I⟩
   ·exact kP<|bN<|tN<|rG<|yD I<|lM I<|SL.nil<|ST.again (k+1) sB I I ⟨oM,ix i j f<|zh2 hd⟩ oM
  ·refine xI<|tX<|tX<|bX<|tN<|rZ<|aT I<|rE ?_;have y:k=l.length:=oM;subst y;have:l=m:=jm b f;exact za8 (.inl I) results65 I ⟨by simp[this],I,I⟩
theorem xl (E:World)(g:PH)(s:Own)(v u:Value)(l m:List Int)(n:dp g v l)(o:dp g u m)(hl:l.length<1099511627776) :
  Ctr Tryz.prog E 113 #[v,u] g s (fun r g' s'=>r=vi (ii l m)∧g=g'∧s=s'):=by
 obtain ⟨p,c,rfl⟩:=za4 n;obtain ⟨q,d,rfl⟩:=za4 o;refine zb2 (args:=[.slice p l.length c,.slice q m.length d]) func113 I ntmps113 (bE I)<|rZ<|aT I<|sQ<|sW I<|lU (eN az I)<|lM I<|tZ<|bK<|oP (ι:=Nat) (fun k=>[(0,.slice p l.length c),(1,.slice q m.length d),(9,.slice p l.length c),(10,vi l.length),(11,vi k)]) (fun _=>g) (fun _=>s) (fun k=>k≤l.length∧k≤m.length∧ii l m=ii (l.drop k) (m.drop k)) (fun k=>l.length - k) 0
  sB rfl rfl ⟨zf8 _,zf8 _,by simp⟩ ?_
 rintro k ⟨H,G,a⟩;refine rZ<|yL I<|tZ<|sQ<|iP I (fun t=>?_) (fun t=>?_)
 ·have j:k<l.length:=oM;have w:=za6 n oM;have z:l[((k:Nat):Int).toNat]?=some l[k]:=List.getElem?_eq_getElem j;have f:l.drop k=l[k]::l.drop (k+1):=zg8 j;generalize l[k]=x at *;rw[f] at a;refine kP<|tN<|sQ<|bK<|sW I<|lU (iA az zT3 I I w oM sL)<|lK (eB iT3 I (za7 n) z I)<|lA I<|aT I<|sQ<|sW I<|lM I<|lU (eN az I)<|lU (gQ I I)<|tZ<|iP I (fun A=>?_) (fun A=>?_)
  ·refine rZ<|aT I<|rE<|tR<|bR<|tR<|tR<|bR<|tR ?_;have i:m.drop k=[]:=List.drop_of_length_le oM;rw[i] at a;exact za8 (.inl I) results113 I ⟨by rw[a];rfl,rfl,rfl⟩
  ·have e:k<m.length:=oM;have B:=za6 o oM;have C:m[((k:Nat):Int).toNat]?=some m[k]:=List.getElem?_eq_getElem e;have b:m.drop k=m[k]::m.drop (k+1):=zg8 e;generalize m[k]=y at *;rw[b] at a;refine kP<|tN<|sW I<|lM I<|lU (iA az zT3 I I B oM sL)<|lK (eB iT3 I (za7 o) C I)<|aT I<|sW I<|lM I<|lW (SO.call call44 I<|dM E g _ x y) ?_;rintro _ _ _ ⟨rfl,rfl,rfl⟩;refine aT I<|sW I<|lU (nQ I I)<|tZ<|iP I (fun hd=>?_) (fun hd=>?_)
   ·exact sW I<|aT I<|rE<|bR<|tR<|tR<|bR<|tR<|za8 (.inl I) results113 I ⟨by rw[a,ii,zg3 hd],I,I⟩
   ·exact kP<|bN<|tN<|rG<|yD I<|lM I<|SL.nil<|ST.again (k+1) sB I I ⟨oM,oM,by rw[a,ii,zg2 hd]⟩ oM
 ·refine xI<|tX<|tX<|bX<|tN<|sQ<|sW I<|lU (eN az I)<|lM I<|lU (eN az I)<|yL I<|tZ ?_;have D:l.drop k=[]:=List.drop_of_length_le oM;rw[D] at a;refine iP I (fun F=>?_) (fun F=>?_)
  ·refine rZ<|aT I<|rE<|tR ?_;have e:k<m.length:=oM;have b:m.drop k=m[k]::m.drop (k+1):=zg8 e;rw[b] at a;exact za8 (.inl I) results113 I ⟨by rw[a];rfl,rfl,rfl⟩
  ·refine kP<|tN<|rZ<|aT I<|rE ?_;have i:m.drop k=[]:=List.drop_of_length_le oM;rw[i] at a;exact za8 (.inl I) results113 I ⟨by rw[a];rfl,rfl,rfl⟩
theorem lk (E:World)(g:PH)(s:Own)(v u:Value)(l m:List Int)(a:dp g v l)(b:dp g u m)(hl:l.length<1099511627776) :
  Ctr Tryz.prog E 63 #[v,u] g s (fun r g' s'=>r=vi (au l m)∧g=g'∧s=s'):=by
 obtain ⟨p,c,rfl⟩:=za4 a;obtain ⟨q,d,rfl⟩:=za4 b;refine zb2 (args:=[.slice p l.length c,.slice q m.length d]) func63 I ntmps63 (bE I)<|rZ<|aT I<|sW I<|lU (eN az I)<|lM I<|lU (eN az I)<|lW (SO.call call44 I<|dM E g _ l.length m.length) ?_;rintro _ _ _ ⟨rfl,rfl,rfl⟩;refine lM I<|lM I<|lW (SO.call call113 I<|xl E g _ _ _ l m a b hl) ?_;rintro _ _ _ ⟨rfl,rfl,rfl⟩;refine lW (bS sty32 I I I (ab sB) dC) ?_;rintro _ _ _ ⟨e,rfl,rfl,rfl⟩;refine lW (SO.call call98 I<|A8 E g _ _ [ij l.length m.length,ii l m] (Rd.pt 0 I) ⟨_,_,I⟩ (fun _=>I) dO) ?_;rintro _ _ _ ⟨rfl,rfl,rfl⟩;exact aT I<|rE<|dR (s':=s) uR<|za8 (.inl I) results63 I ⟨by unfold au;simp only[orI];split <;> simp_all,I,I⟩
def dZ (g:PH)(l:List Int)(r:Sv):Prop:=dp g (.slice r.p r.n r.c) l
theorem dZ.mono {g g':PH}(hl:Le g g'){l:List Int}{r:Sv}(h:dZ g l r):dZ g' l r:=za5 h hl
theorem dZ.len {g:PH}{l:List Int}{r:Sv}(h:dZ g l r):r.n=l.length:=(SlA.cap h).1
def cQ (g:PH)(v:Value)(l:List (List Int)):Prop:=∃ rs,SlA dQ g v rs∧ax (dZ g) l rs
theorem cQ.mono {g g':PH}{v:Value}{l:List (List Int)}(h:cQ g v l)(hl:Le g g'):cQ g' v l:=by
 obtain ⟨rs,a,b⟩:=h;exact⟨rs,a.mono hl,b.mono fun _ _=>dZ.mono hl⟩
def eX (bits:Nat)(l:List Int):List Int:=(l.zipIdx.filter fun p=>bits / 2 ^ p.2 % 2 == 1).map (·.1)
def bM (l:List Int):List (List Int):=(List.range<|2 ^ l.length - 1).map fun i=>eX (i+1) l
theorem A5:∀ n,n<10→IntKind.i64.wrap (1 * 2 ^ min ((n:Nat):Int).toNat IntKind.i64.bits)=((2 ^ n:Nat):Int):=by decide
theorem A4 (b k:Nat)(c:k<10):(((b:Nat):Int).fdiv<|2 ^ min ((k:Nat):Int).toNat IntKind.i64.bits) % 2=((b / 2 ^ k % 2:Nat):Int):=by
 have a:min ((k:Nat):Int).toNat IntKind.i64.bits=k:=by
  have:IntKind.i64.bits=64:=rfl;rw[this];omega
 rw[a,Int.fdiv_eq_ediv_of_nonneg _<|Int.le_of_lt<|Int.pow_pos dC];simp
theorem AI (n:Nat)(h:n≤9):2 ^ n≤512:=by
 have:(2:Nat) ^ n≤2 ^ 9:=Nat.pow_le_pow_right dC h;simpa using this
theorem qX {bits k:Nat}{l:List Int}(h:k<l.length):eX bits (l.take<|k+1)=if bits / 2 ^ k % 2=1 then eX bits (l.take k)++[l[k]] else eX bits (l.take k):=by
 unfold eX;rw[tS h,List.zipIdx_append,zh8,zg7];have:(List.take k l).length=k:=by rw[ze6];omega
 rw[this];simp only[List.zipIdx_cons,List.zipIdx_nil,Nat.zero_add,zi9,List.filter_nil];by_cases hb:bits / 2 ^ k % 2=1
 ·simp[hb]
 ·simp[hb]
theorem gi (bits:Nat)(l:List Int):(eX bits l).length≤l.length:=by
 unfold eX;rw[ze8];have:=zc6 (fun p:Int×Nat=>bits / 2 ^ p.2 % 2 == 1) l.zipIdx;simpa using this
theorem vn (E:World)(g:PH)(s:Own)(v:Value)(l:List Int)(y:dp g v l)(hl:l.length≤9) :
  Ctr Tryz.prog E 61 #[v] g s (fun r g' s'=>s=s'∧Le g g'∧cQ g' r (bM l)):=by
 obtain ⟨p,c,rfl⟩:=za4 y;have J:=AI l.length hl;refine zb2 (args:=[.slice p l.length c]) func61 I ntmps61 (bE I)<|rZ<|aT I<|rZ<|aT I<|sQ<|rZ<|aT I<|bK<|zb6 32 1<|oP (ι:=PH×Value×Nat×List Sv) (fun i=>[(0,.slice p l.length c),(3,i.2.1),(4,vi (i.2.2.1+1:Nat))]) (fun i=>i.1)
  (fun i=>rowA dQ 32 i.2.1 i.2.2.2::s) (fun i=>Le g i.1∧i.2.2.1+1≤2 ^ l.length∧ax (dZ i.1) ((List.range i.2.2.1).map fun j=>eX (j+1) l) i.2.2.2) (fun i=>2 ^ l.length - i.2.2.1)
  (g,.slice none 0 0,0,[]) sB rfl rfl ⟨zb9 g,Nat.one_le_two_pow,trivial⟩ ?_
 rintro ⟨g1,x,b,rs⟩ ⟨f,hb,a⟩;dsimp only at f hb a ⊢;have z:=a.length;simp only[ze8,zi6] at z;refine sQ<|sW I<|lM I<|lU (eN az I)<|lU (SU.eq (v':=vi ((2 ^ l.length:Nat):Int)) (SU.shl I I oM)<|ze4 vi<|A5 l.length oM)<|yL I<|tZ<|iP I (fun A=>?_) (fun A=>?_)
 ·have B:b+1<2 ^ l.length:=oM;refine kP<|tN<|sQ<|bK<|rZ<|aT I<|sQ<|sQ<|zb6 3 1<|rG<|lM I<|lU (eN az I)<|lM I<|tZ<|bK<|oP (ι:=Value×Nat) (fun i=>[(0,.slice p l.length c),(3,x),(4,vi (b+1:Nat)),(5,i.1),(15,.slice p l.length c),(16,vi l.length),(17,vi i.2)]) (fun _=>g1)
   (fun i=>rowA encInt 3 i.1 (eX (b+1)<|l.take i.2)::rowA dQ 32 x rs::s) (fun i=>i.2≤l.length) (fun i=>l.length - i.2) (.slice none 0 0,0)
   sB rfl rfl (zf8 _) ?_
  rintro ⟨K,k⟩ M;dsimp only at M ⊢;have C:=gi (b+1)<|l.take k;rw[ze6] at C;refine rZ<|yL I<|tZ<|sQ<|iP I (fun o=>?_) (fun o=>?_)
  ·have t:k<l.length:=oM;have D:=za6 (y.mono f) oM;have m:=qX (bits:=b+1) t;refine kP<|tN<|sQ<|bK<|sW I<|lU (iA az zT3 I I D oM sL)<|SL.q (eB iT3 I (za7<|y.mono f) (List.getElem?_eq_getElem t) I) dC ?_;refine lA I<|aT I<|sW I<|lM I<|lU (SU.shr I I oM)<|lU (SU.eq (v':=vi (((b+1) / 2 ^ k % 2:Nat):Int)) (SU.and I I)<|ze4 vi<|(wi _).trans<|A4 (b+1) k oM)<|yE I<|tZ<|iP I (fun u=>?_) (fun u=>?_)
   ·refine rG<|lM I<|lM I<|lW (bS sty32 I I I (ab sB) dC) ?_;rintro _ _ _ ⟨N,rfl,rfl,rfl⟩;refine lW (aP 0 l[k] sty32 I I I I I oM oM) ?_;rintro cv' _ _ ⟨rfl,rfl⟩;refine lA I<|SL.nil<|bN<|tN<|rG<|yD I<|lM I<|SL.nil ?_;refine ST.to (fun w F=>?_) (g':=g1) (s':=rowA encInt 3 cv' (eX (b+1)<|l.take<|k+1)::rowA dQ 32 x rs::s) ?_
    ·rw[m,zg3 oM];exact F
    exact ST.again (cv',k+1) sB I I lN lN
   ·refine kP<|bN<|tN<|rG<|yD I<|lM I<|SL.nil ?_;refine ST.to (fun w F=>?_) (g':=g1) (s':=rowA encInt 3 K (eX (b+1)<|l.take<|k+1)::rowA dQ 32 x rs::s) ?_
    ·rw[m,zg2 oM];exact F
    exact ST.again (K,k+1) sB I I lN lN
  ·have G:l.take k=l:=tL oM;refine xI (tX (tX (bX (tN (rG (zd6 fun g2 d n=>?_))))));rw[G] at n;obtain ⟨L,d2,rfl⟩:=za4 (e:=encInt) n;refine lM I (lM I (lW (bS sty22 I I I (ab sB) dC) ?_));rintro _ _ _ ⟨O,rfl,rfl,rfl⟩;refine lW (aP (e:=dQ) 0 ⟨L,(eX (b+1) l).length,d2⟩ sty22 I I I I I oM oM) ?_;rintro ov' _ _ ⟨rfl,rfl⟩;refine lA I (SL.nil (bN (tN (rG (lM I (yD I (lA I (SL.nil ?_))))))));exact ST.again (g2,ov',b+1,rs++[⟨L,(eX (b+1) l).length,d2⟩]) ⟨I,I,bG dO,trivial⟩ I I ⟨f.trans d,B,by
    dsimp only;rw[List.range_succ,zg7];exact (a.mono fun _ _=>dZ.mono d).append ⟨n,trivial⟩⟩ lN
 ·refine xI (tX<|tX<|bX<|tN<|sW I<|aT I<|rE<|fT fun g2 d n=>?_);have H:b=2 ^ l.length - 1:=oM;exact za8 (.inl I) results61 I ⟨I,f.trans d,rs,n,by rw[H] at a;exact a.mono fun _ _=>dZ.mono d⟩
def bg {α:Type}(eq:α→α→Bool):α→List α→List α
 | _,[]=>[]
 | x,y::r=>if eq y x then bg eq y r else y::bg eq y r
def iT {α:Type}(eq:α→α→Bool):List α→List α
 | []=>[]
 | x::r=>x::bg eq x r
theorem jr {α:Type}(eq:α→α→Bool):∀ (x:α) (a:List α) (y:α) (r:List α),bg eq x (a++y::r)=bg eq x (a++[y])++bg eq y r
 | x,[],y,r=>by simp only[List.nil_append,bg];split <;> simp
 | x,z::a,y,r=>by
  simp only[List.cons_append,bg];split
  ·exact jr eq z a y r
  ·rw[jr eq z a y r];rfl
theorem ji {α:Type}(eq:α→α→Bool)(a:List α)(y:α)(r:List α):iT eq (a++y::r)=iT eq (a++[y])++bg eq y r:=by
 cases a with
 | nil=>rfl
 | cons x a=>simp only[List.cons_append,iT];rw[jr]
theorem mi {α:Type}(eq:α→α→Bool):∀ (x:α) (r:List α),(bg eq x r).length≤r.length
 | _,[]=>Nat.le_refl _
 | x,y::r=>by
  have:=mi eq y r;simp only[bg];split <;> simp <;> omega
theorem kU {α:Type}(eq:α→α→Bool)(l:List α):(iT eq l).length≤l.length:=by
 cases l with
 | nil=>exact Nat.le_refl _
 | cons x r=>have:=mi eq x r;simp[iT];exact this
theorem xP {α:Type}{l:List α}{k:Nat}(h:k+1<l.length):∃ A x y R,l=A++x::y::R∧A.length=k:=by
 refine⟨l.take k,l[k],l[k+1],l.drop<|k+2,?_,by rw[ze6];omega⟩;have a:l.drop k=l[k]::l.drop (k+1):=zg8 oM;have b:l.drop (k+1)=l[k+1]::l.drop (k+2):=zg8 oM;rw[← b,← a,zj4]
theorem rU {α:Type}(A:List α)(x:α)(R:List α):(A++x::R).take (A.length+1)=A++[x]:=by
 rw[List.take_append,tL oM];simp
theorem ku {α:Type}(eq:α→α→Bool){l:List α}(h:l.length<2):iT eq l=l:=by
 match l,h with
 | [],_=>rfl
 | [a],_=>rfl
theorem nZ {b o n c l k:Nat}(h:l<c):sliced (some ⟨b,o,none⟩) l n c k = .slice (some ⟨b,o+l * k,none⟩) (n - l) (c - l):=by
 have a:(⟨b,o,none⟩:Addr).add (l * k)=⟨b,o+l * k,none⟩:=by unfold Addr.add;split <;> simp_all
 simp only[sliced];rw[zg2 oM];simp[a]
theorem CS {b o n c k:Nat}:sliced (some ⟨b,o,none⟩) 0 n c k = .slice (some ⟨b,o,none⟩) n c:=by
 have a:(⟨b,o,none⟩:Addr).add 0=⟨b,o,none⟩:=by unfold Addr.add;split <;> simp_all
 simp[sliced,a]
theorem rV {α:Type}{k:Nat}{e:Enc α k}{E:World}{g:PH}{s:Own}{w:World}{T:TypeId}{p:Option Addr}{c i:Nat}{l:List α}(h:At E g s w)(d:s[i]?=some (rowA e T (.slice p l.length c) l))(m:0<l.length):∃ b cap,p=some ⟨b,0,none⟩∧c=cap+1∧l.length≤cap+1:=by
 obtain ⟨_,f⟩:=gX h d
 rcases f with ⟨q,_,n⟩ | ⟨b,cap,cur,j,_,a,_⟩
 ·omega
 ·injection j with e1 e2 e3
  exact⟨b,cap,e1,e3,a⟩
theorem DY {α:Type}(t:Enc α 1)(val:α→Value)(d:∀ a,t.enc a=[val a])(P:∀ a,(val a).cells = #[val a])(E:World)(g:PH)(s:Own)(v:Value)(fn:FuncId)(eq:α→α→Bool)(l:List α)(hl:l.length<1099511627776)
  (f:∀ a b s',cU Tryz.prog E (.func (.func fn) #[] #[]) [val a,val b] g s' (fun r g' Q=>r=vb (eq a b)∧g=g'∧s'=Q)) :
  Ctr Tryz.prog E 64 #[v,.func (.func fn) #[] #[]] g (rowA t 32 v l::s) (fun r g' s'=>g=g'∧s'=rowA t 32 r (iT eq l)::s):=by
 refine Ctr.facts fun ⟨w0,B⟩=>?_;obtain ⟨p,c,rfl⟩:=ah (i:=0) B rfl;have H:=fun h=>rV (i:=0) B rfl h;clear B w0;refine zb2 (args:=[.slice p l.length c,.func (.func fn) #[] #[]]) func64 I ntmps64 (bE I)<|rZ<|aT I<|sQ<|sW I<|lU (eN eS I)<|yL I<|tZ<|iP I (fun h2=>?_) (fun h2=>?_)
 ·exact sW I<|aT I<|rE<|tR<|za8 (.inl I) results64 I ⟨I,by rw[ku eq oM]⟩
 ·obtain ⟨b,cap,rfl,rfl,a2⟩:=H oM;refine kP<|tN<|sQ<|rZ<|aT I<|bK<|oP (ι:=Nat) (fun k=>[(0,.slice (some ⟨b,0,none⟩) l.length<|cap+1),(1,.func (.func fn) #[] #[]),(5,vi<|k+1)]) (fun _=>g) (fun _=>rowA t 32 (.slice (some ⟨b,0,none⟩) l.length<|cap+1) l::s) (fun k=>k+1≤l.length∧iT eq (l.take<|k+1)=l.take (k+1)) (fun k=>l.length - k) 0
   sB rfl rfl ⟨oM,ku eq (by rw[ze6];omega)⟩ ?_
  rintro k ⟨hk,m⟩;refine sQ<|sW I<|lM I<|lU (eN eS I)<|yL I<|tZ<|iP I (fun S=>?_) (fun S=>?_)
  ·obtain ⟨A,x,y,R,e,hA⟩:=xP (l:=l) (k:=k) oM;have a3:l.length=k+2+R.length:=by rw[e];simp;omega
   have T:l[((k:Int)+1).toNat]?=some y:=by
    have U:l=(A++[x])++y::R:=by rw[e];simp
    rw[U];exact bP (by simp;omega)
   have V:l[((k:Int)+1 - 1).toNat]?=some x:=by rw[e];exact bP oM
   have W:l.take (k+1)=A++[x]:=by rw[e,← hA];exact rU A x<|y::R
   rw[W] at m;refine kP<|tN<|sQ<|bK<|sQ<|dW [] [(0,2),(1,2),(2,2),(3,2),(4,1),(5,2),(6,2),(7,2),(8,2),(9,1),(10,0)] ze5 kR<|yM I<|yM I<|yM I<|pU I (iA eS fW I I I oM sL)<|pK I (eB ic I (zb7 0 I) T<|d _)<|yM I<|yM I<|pU I (sU I I oM)<|pU I (iA eS fW I I I oM sL)<|pK I (eB ic I (zb7 0 I) V<|d _)<|SP.o I (SO.callV I I<|f _ _ _) dC (.inr iR) ?_;rintro _ _ _ ⟨rfl,rfl,rfl⟩;refine pN<|tN<|iQ I (fun C=>?_) (fun C=>?_)
   ·have hU:iT eq l=(A++[x])++bg eq y R:=by rw[e,ji,m];simp only[bg,C,if_true]
    refine sW I<|lM I<|lU (SU.eq (v':=.slice (some ⟨b,0+(k+1) * 1,none⟩) (l.length - (k+1))<|cap+1 - (k+1)) (SU.sliceL eS fW I I oM oM) (by rw[show ((k:Int)+1).toNat=k+1 by omega];exact nZ oM)) ?_;refine aT I<|sQ<|rZ<|aT I<|bK ?_;refine oP (ι:=List α×List α×α×List α×Nat) (fun i=>[(0,.slice (some ⟨b,0,none⟩) l.length<|cap+1),(1,.func (.func fn) #[] #[]),(5,vi i.1.length),(6,.slice (some ⟨b,0+(k+1) * 1,none⟩) (l.length - (k+1))<|cap+1 - (k+1)),(7,vi i.2.2.2.2)]) (fun _=>g)
     (fun i=>rowA t 32 (.slice (some ⟨b,0,none⟩) l.length<|cap+1) (i.1++(i.2.1++[i.2.2.1])++i.2.2.2.1)::s)
     (fun i=>i.1.length+i.2.1.length=k+i.2.2.2.2∧1≤i.2.2.2.2∧iT eq l=i.1++bg eq i.2.2.1 i.2.2.2.1∧i.1.length+i.2.1.length+1+i.2.2.2.1.length=l.length) (fun i=>i.2.2.2.1.length)
     (A++[x],[],y,R,1) ⟨rfl,rfl,bG lN,rfl,rfl,trivial⟩ rfl (by dsimp only;rw[e];simp) ⟨lN,Nat.le_refl _,hU,lN⟩ ?_
    rintro ⟨D,J0,z,R',n⟩ ⟨X,Y,O,u⟩;dsimp only at X Y O u ⊢;have a4:(D++(J0++[z])++R').length=l.length:=lN;refine sQ<|sW I<|lM I<|lU (eN eS I)<|yL I<|tZ<|iP I (fun K=>?_) (fun K=>?_)
    ·cases R' with
     | nil=>simp at u;omega
     | cons y' R2 =>
     simp only[zf1] at u;have L:((D++(J0++[z])++y'::R2).drop<|k+1)[((n:Nat):Int).toNat]?=some y':=by
      rw[zi4];exact bP lN
     have Z:((D++(J0++[z])++y'::R2).drop<|k+1)[((n:Nat):Int) - 1 |>.toNat]?=some z:=by
      rw[zi4,show D++(J0++[z])++y'::R2=(D++J0)++z::y'::R2 by simp];exact bP lN
     have F:∀ s',Rd g (rowA t 32 (.slice (some ⟨b,0,none⟩) l.length<|cap+1) (D++(J0++[z])++y'::R2)::s') (.slice (some ⟨b,0+(k+1) * 1,none⟩) (l.length - (k+1))<|cap+1 - (k+1)) (((D++(J0++[z])++y'::R2).drop<|k+1).flatMap t.enc):=fun s'=>by
      rw[Nat.zero_add];exact Rd.fromA<|zb7 0 I
     refine kP<|tN<|sQ<|bK<|sQ<|dW [] [(0,2),(1,2),(2,2),(3,2),(4,1),(5,2),(6,2),(7,2),(8,2),(9,1),(10,0),(11,2)] ze5 kR<|yM I<|yM I<|yM I<|pU I (iA eS fW I I I oM sL)<|pK I (eB ic I (F _) L<|d _)<|yM I<|yM I<|pU I (sU I I oM)<|pU I (iA eS fW I I I oM sL)<|pK I (eB ic I (F _) Z<|d _)<|SP.o I (SO.callV I I<|f _ _ _) dC (.inr iR) ?_;rintro _ _ _ ⟨rfl,rfl,rfl⟩;refine pU I (SU.not I)<|pN<|tN<|iQ I (fun G=>?_) (fun G=>?_)
     ·have M:eq y' z=false:=by simpa using G
      refine sW I<|lM I<|lM I<|lM I<|lU (iA eS fW I I I oM sL)<|lK (eB ic I (F _) L<|d _)<|lU (iA eS fW I I I oM sL)<|oZ (SO.setA (a:=y') 0 fW I I I lN<|by rw[P,d]) ?_;refine tZ<|rG<|lM I<|yD I<|lA I<|SL.nil<|bN<|tN<|rG<|lM I<|yD I<|lA I<|SL.nil ?_;have q:∃ J',(D++(J0++[z])++y'::R2).set ((D.length:Nat):Int).toNat y'=(D++[y'])++(J'++[y'])++R2∧J'.length=J0.length:=by
       cases J0 with
       | nil=>exact⟨[],by rw[show D++([]++[z])++y'::R2=D++z::y'::R2 by simp,dT oM];simp,rfl⟩
       | cons j J1=>exact⟨J1++[z],by rw[show D++(j::J1++[z])++y'::R2=D++j::(J1++[z]++y'::R2) by simp,dT oM];simp,by simp⟩
      obtain ⟨J',q,a5⟩:=q;refine ST.to (fun w N=>?_) (g':=g) (s':=rowA t 32 (.slice (some ⟨b,0,none⟩) l.length<|cap+1) ((D++[y'])++(J'++[y'])++R2)::s) ?_
      ·rw[← q];exact N
      exact ST.again (D++[y'],J',y',R2,n+1) ⟨I,I,bG lN,I,I,trivial⟩ I I ⟨lN,lN,by rw[O];simp only[bg,M];simp,lN⟩ lN
     ·have a0:eq y' z=true:=by simpa using G
      refine kP<|bN<|tN<|rG<|lM I<|yD I<|lA I<|SL.nil ?_;refine ST.to (fun w N=>?_) (g':=g) (s':=rowA t 32 (.slice (some ⟨b,0,none⟩) l.length<|cap+1) (D++((J0++[z])++[y'])++R2)::s) ?_
      ·rw[show D++((J0++[z])++[y'])++R2=D++(J0++[z])++y'::R2 by simp];exact N
      exact ST.again (D,J0++[z],y',R2,n+1) sB I I ⟨lN,lN,by rw[O];simp only[bg,a0];simp,lN⟩ lN
    ·have hR:R'=[]:=zf6 oM;subst hR;simp only[zc5] at u;refine xI<|tX<|tX<|bX<|tN<|rZ ?_;refine SL.to (fun w N=>At.shrink (i:=0) (D:=D) (J:=J0++[z]) N (by rw[zc7];rfl) rfl) ?_;refine lM I<|lM I<|lU (SU.eq (v':=.slice (some ⟨b,D.length * 1,none⟩) (l.length - D.length)<|cap+1 - D.length) (SU.sliceL eS fW I I oM oM)<|by rw[Int.toNat_natCast,nZ oM,Nat.zero_add]) ?_;refine lO (SO.clearA (D:=D) 0 sty22 (mB (l:=[.slice none 0 0]) ⟨I,trivial⟩) I I I oM) ?_;rintro _ _ _ ⟨rfl,rfl⟩;refine tZ<|sW I<|lM I<|lU (SU.eq (v':=.slice (some ⟨b,0,none⟩) D.length<|cap+1) (SU.sliceH eS fW I I oM oM) (by rw[Int.toNat_natCast];exact CS)) ?_;refine aT I<|rE<|bR<|tR<|tR<|bR<|tR ?_;exact za8 (.inl I) results64 I ⟨I,by rw[O];simp[bg]⟩
   ·refine kP (bN (tN (rG (lM I (yD I (lA I (SL.nil ?_)))))));exact ST.again (k+1) ⟨I,I,bG oM,trivial⟩ I I ⟨oM,by
     have U:l=(A++[x])++y::R:=by rw[e];simp
     have h4:l.take (k+1+1)=(A++[x])++[y]:=by
      rw[U,show k+1+1=(A++[x]).length+1 by simp;omega];exact rU _ y R
     rw[h4,show (A++[x])++[y]=A++x::[y] by simp,ji,m];simp[bg,C]⟩ oM
  ·have a1:k+1=l.length:=oM;rw[a1,tL<|Nat.le_refl _] at m;exact xI<|tX<|tX<|bX<|tN<|sW I<|aT I<|rE<|za8 (.inl I) results64 I ⟨I,by rw[m]⟩
theorem DZ (E:World)(g:PH)(s:Own)(v:Value)(l:List Int)(hl:l.length<17592186044416) :
  Ctr Tryz.prog E 60 #[v] g (rowA encInt 3 v l::s) (fun r g' s'=>g=g'∧s'=rowA encInt 3 r (iT (fun a b:Int=>decide (a=b)) l)::s):=by
 refine Ctr.facts fun ⟨Y,o⟩=>?_;obtain ⟨p,c,rfl⟩:=ah (i:=0) o rfl;have B:=fun h=>rV (i:=0) o rfl h;clear o Y;refine zb2 (args:=[.slice p l.length c]) func60 I ntmps60 (bE I)<|rZ<|aT I<|sQ<|sW I<|lU (eN az I)<|yL I<|tZ<|iP I (fun Z=>?_) (fun Z=>?_)
 ·exact sW I<|aT I<|rE<|tR<|za8 (.inl I) results60 I ⟨I,by rw[ku (fun a b:Int=>decide (a=b)) oM]⟩
 ·obtain ⟨b,cap,rfl,rfl,W⟩:=B oM;refine kP<|tN<|sQ<|rZ<|aT I<|bK<|oP (ι:=Nat) (fun k=>[(0,.slice (some ⟨b,0,none⟩) l.length<|cap+1),(3,vi<|k+1)]) (fun _=>g) (fun _=>rowA encInt 3 (.slice (some ⟨b,0,none⟩) l.length<|cap+1) l::s) (fun k=>k+1≤l.length∧iT (fun a b:Int=>decide (a=b)) (l.take<|k+1)=l.take (k+1)) (fun k=>l.length - k) 0
   sB rfl rfl ⟨oM,ku (fun a b:Int=>decide (a=b)) (by rw[ze6];omega)⟩ ?_
  rintro k ⟨hk,e⟩;refine sQ<|sW I<|lM I<|lU (eN az I)<|yL I<|tZ<|iP I (fun L=>?_) (fun L=>?_)
  ·obtain ⟨A,x,y,R,d,hA⟩:=xP (l:=l) (k:=k) oM;have X:l.length=k+2+R.length:=by rw[d];simp;omega
   have M:l[((k:Int)+1).toNat]?=some y:=by
    have N:l=(A++[x])++y::R:=by rw[d];simp
    rw[N];exact bP (by simp;omega)
   have O:l[((k:Int)+1 - 1).toNat]?=some x:=by rw[d];exact bP oM
   have P:l.take (k+1)=A++[x]:=by rw[d,← hA];exact rU A x<|y::R
   rw[P] at e;refine kP<|tN<|sQ<|bK<|sQ<|dW [] [(0,2),(1,2),(2,2),(3,1),(4,2),(5,2),(6,2),(7,2),(8,1),(9,2)] ze5 kR<|yM I<|yM I<|pU I (iA az zT3 I I I oM sL)<|pK I (eB iT3 I (zb7 0 I) M I)<|yM I<|yM I<|pU I (sU I I oM)<|pU I (iA az zT3 I I I oM sL)<|pK I (eB iT3 I (zb7 0 I) O I)<|pU I (eQ I I)<|pN<|tN<|iQ I (fun q=>?_) (fun q=>?_)
   ·have hU:iT (fun a b:Int=>decide (a=b)) l=(A++[x])++bg (fun a b:Int=>decide (a=b)) y R:=by rw[d,ji,e];simp only[bg,q,if_true]
    refine sW I<|lM I<|lU (SU.eq (v':=.slice (some ⟨b,0+(k+1) * 1,none⟩) (l.length - (k+1))<|cap+1 - (k+1)) (SU.sliceL az zT3 I I oM oM) (by rw[show ((k:Int)+1).toNat=k+1 by omega];exact nZ oM)) ?_;refine aT I<|sQ<|rZ<|aT I<|bK ?_;refine oP (ι:=List Int×List Int×Int×List Int×Nat) (fun i=>[(0,.slice (some ⟨b,0,none⟩) l.length<|cap+1),(3,vi i.1.length),(4,.slice (some ⟨b,0+(k+1) * 1,none⟩) (l.length - (k+1))<|cap+1 - (k+1)),(5,vi i.2.2.2.2)]) (fun _=>g)
     (fun i=>rowA encInt 3 (.slice (some ⟨b,0,none⟩) l.length<|cap+1) (i.1++(i.2.1++[i.2.2.1])++i.2.2.2.1)::s)
     (fun i=>i.1.length+i.2.1.length=k+i.2.2.2.2∧1≤i.2.2.2.2∧iT (fun a b:Int=>decide (a=b)) l=i.1++bg (fun a b:Int=>decide (a=b)) i.2.2.1 i.2.2.2.1∧i.1.length+i.2.1.length+1+i.2.2.2.1.length=l.length) (fun i=>i.2.2.2.1.length)
     (A++[x],[],y,R,1) ⟨rfl,bG lN,rfl,rfl,trivial⟩ rfl (by dsimp only;rw[d];simp) ⟨lN,Nat.le_refl _,hU,lN⟩ ?_
    rintro ⟨D,J0,z,R',n⟩ ⟨Q,S,K,m⟩;dsimp only at Q S K m ⊢;have a0:(D++(J0++[z])++R').length=l.length:=lN;refine sQ<|sW I<|lM I<|lU (eN az I)<|yL I<|tZ<|iP I (fun C=>?_) (fun C=>?_)
    ·cases R' with
     | nil=>simp at m;omega
     | cons y' R2 =>
     simp only[zf1] at m;have F:((D++(J0++[z])++y'::R2).drop<|k+1)[((n:Nat):Int).toNat]?=some y':=by
      rw[zi4];exact bP lN
     have T:((D++(J0++[z])++y'::R2).drop<|k+1)[((n:Nat):Int) - 1 |>.toNat]?=some z:=by
      rw[zi4,show D++(J0++[z])++y'::R2=(D++J0)++z::y'::R2 by simp];exact bP lN
     have t:∀ s',Rd g (rowA encInt 3 (.slice (some ⟨b,0,none⟩) l.length<|cap+1) (D++(J0++[z])++y'::R2)::s') (.slice (some ⟨b,0+(k+1) * 1,none⟩) (l.length - (k+1))<|cap+1 - (k+1)) (((D++(J0++[z])++y'::R2).drop<|k+1).flatMap encInt.enc):=fun s'=>by
      rw[Nat.zero_add];exact Rd.fromA<|zb7 0 I
     refine kP<|tN<|sQ<|bK<|sQ<|dW [] [(0,2),(1,2),(2,2),(3,1),(4,2),(5,2),(6,2),(7,2),(8,1),(9,2)] ze5 kR<|yM I<|yM I<|pU I (iA az zT3 I I I oM sL)<|pK I (eB iT3 I (t _) F I)<|yM I<|yM I<|pU I (sU I I oM)<|pU I (iA az zT3 I I I oM sL)<|pK I (eB iT3 I (t _) T I)<|pU I (nQ I I)<|pN<|tN<|iQ I (fun u=>?_) (fun u=>?_)
     ·have G:decide (y'=z)=false:=by simpa using u
      refine sW I<|lM I<|lM I<|lM I<|lU (iA az zT3 I I I oM sL)<|lK (eB iT3 I (t _) F I)<|lU (iA az zT3 I I I oM sL)<|oZ (SO.setA (a:=y') 0 zT3 I I I lN I)<|tZ<|rG<|lM I<|yD I<|lA I<|SL.nil<|bN<|tN<|rG<|lM I<|yD I<|lA I<|SL.nil ?_;have f:∃ J',(D++(J0++[z])++y'::R2).set ((D.length:Nat):Int).toNat y'=(D++[y'])++(J'++[y'])++R2∧J'.length=J0.length:=by
       cases J0 with
       | nil=>exact⟨[],by rw[show D++([]++[z])++y'::R2=D++z::y'::R2 by simp,dT oM];simp,rfl⟩
       | cons j J1=>exact⟨J1++[z],by rw[show D++(j::J1++[z])++y'::R2=D++j::(J1++[z]++y'::R2) by simp,dT oM];simp,by simp⟩
      obtain ⟨J',f,a1⟩:=f;refine ST.to (fun w H=>?_) (g':=g) (s':=rowA encInt 3 (.slice (some ⟨b,0,none⟩) l.length<|cap+1) ((D++[y'])++(J'++[y'])++R2)::s) ?_
      ·rw[← f];exact H
      exact ST.again (D++[y'],J',y',R2,n+1) ⟨I,bG lN,I,I,trivial⟩ I I ⟨lN,lN,by rw[K];simp only[bg,G];simp,lN⟩ lN
     ·have U:decide (y'=z)=true:=by simpa using u
      refine kP<|bN<|tN<|rG<|lM I<|yD I<|lA I<|SL.nil ?_;refine ST.to (fun w H=>?_) (g':=g) (s':=rowA encInt 3 (.slice (some ⟨b,0,none⟩) l.length<|cap+1) (D++((J0++[z])++[y'])++R2)::s) ?_
      ·rw[show D++((J0++[z])++[y'])++R2=D++(J0++[z])++y'::R2 by simp];exact H
      exact ST.again (D,J0++[z],y',R2,n+1) sB I I ⟨lN,lN,by rw[K];simp only[bg,U];simp,lN⟩ lN
    ·have hR:R'=[]:=zf6 oM;subst hR;simp only[zc5] at m;refine xI<|tX<|tX<|bX<|tN<|rZ ?_;refine SL.to (fun w H=>At.shrink (i:=0) (D:=D) (J:=J0++[z]) H (by rw[zc7];rfl) rfl) ?_;refine lM I<|lM I<|lU (SU.eq (v':=.slice (some ⟨b,D.length * 1,none⟩) (l.length - D.length)<|cap+1 - D.length) (SU.sliceL az zT3 I I oM oM)<|by rw[Int.toNat_natCast,nZ oM,Nat.zero_add]) ?_;refine lO (SO.clearA (D:=D) 0 sty32 (mB (l:=[vi 0]) ⟨I,trivial⟩) I I I oM) ?_;rintro _ _ _ ⟨rfl,rfl⟩;refine tZ<|sW I<|lM I<|lU (SU.eq (v':=.slice (some ⟨b,0,none⟩) D.length<|cap+1) (SU.sliceH az zT3 I I oM oM) (by rw[Int.toNat_natCast];exact CS)) ?_;refine aT I<|rE<|bR<|tR<|tR<|bR<|tR ?_;exact za8 (.inl I) results60 I ⟨I,by rw[K];simp[bg]⟩
   ·refine kP (bN (tN (rG (lM I (yD I (lA I (SL.nil ?_)))))));exact ST.again (k+1) ⟨I,bG oM,trivial⟩ I I ⟨oM,by
     have N:l=(A++[x])++y::R:=by rw[d];simp
     have h4:l.take (k+1+1)=(A++[x])++[y]:=by
      rw[N,show k+1+1=(A++[x]).length+1 by simp;omega];exact rU _ y R
     rw[h4,show (A++[x])++[y]=A++x::[y] by simp,ji,e];simp[bg,q]⟩ oM
  ·have V:k+1=l.length:=oM;rw[V,tL<|Nat.le_refl _] at e;exact xI<|tX<|tX<|bX<|tN<|sW I<|aT I<|rE<|za8 (.inl I) results60 I ⟨I,by rw[e]⟩
theorem Fn (E:World)(g:PH)(s:Own)(n:Nat)(hn:n<1099511627776) :
  Ctr Tryz.prog E 114 #[.slice none 0 0,vi n] g s (fun r g' s'=>g=g'∧s'=rowA encInt 3 r []::s):=by
 refine zb2 (args:=[.slice none 0 0,vi n]) func114 I ntmps114 (bE I)<|rZ<|aT I<|sQ<|sW I<|yL I<|tZ<|iP I (fun a=>?_) (fun a=>?_)
 ·exfalso;omega
 ·refine kP<|tN<|sQ<|sW I<|lM I<|lU (SU.cap az I)<|lM I<|lU (eN az I)<|lU (sU I I oM)<|lU (SU.eq (v':=vi n) (sU I I oM)<|ze4 vi oM)<|aT I<|sW I<|lU (gR I I)<|tZ<|iP I (fun c=>?_) (fun c=>?_)
  ·refine rG<|lM I<|lM I<|lU (SU.cap az I)<|lU (SU.eq (v':=.slice none 0 0) (SU.sliceH az zT3 I I oM oM) I)<|lM I<|lW (SO.appendZ encInt sty32 uT3 I I oM oM oM) ?_;rintro _ _ _ ⟨b,cap,rfl,d,rfl,rfl⟩;exact lM I<|lU (eN az I)<|lU (SU.eq (v':=.slice (some ⟨b,0,none⟩) 0<|cap+1) (SU.sliceH az zT3 I I oM oM) CS)<|aT I<|sW I<|aT I<|rE<|za8 (.inl I) results114 I ⟨I,I⟩
  ·exact kP<|tN<|sW I<|aT I<|rE<|ST.nilRow 3 1<|za8 (.inl I) results114 I ⟨I,I⟩
def i5 (ls:List (List Int)):Nat:=(ls.map List.length).sum
theorem kX (ls:List (List Int))(k:Nat):i5 (ls.take k)≤i5 ls:=by
 have h:=ze4 (fun l=>(l.map List.length).sum)<|zj4 k ls;simp only[zg7,List.sum_append] at h;unfold i5;omega
theorem o6 {ls:List (List Int)}{k:Nat}(h:k<ls.length):i5 (ls.take<|k+1)=i5 (ls.take k)+ls[k].length:=by
 unfold i5;rw[tS h,zg7,List.sum_append];rfl
theorem qB (ls:List (List Int)):ls.flatten.length=i5 ls:=List.length_flatten
theorem xk (E:World)(g:PH)(s:Own)(v:Value)(ls:List (List Int))(C:cQ g v ls)(hn:ls.length<1099511627776)(hl:i5 ls<1099511627776) :
  Ctr Tryz.prog E 66 #[v] g s (fun r g' s'=>g=g'∧s'=rowA encInt 3 r ls.flatten::s):=by
 obtain ⟨rs,a,b⟩:=C;have B:=b.length;obtain ⟨p,c,rfl⟩:=za4 a;refine zb2 (args:=[.slice p rs.length c]) func66 I ntmps66 (bE I)<|rZ<|aT I<|rZ<|aT I<|sQ<|sW I<|lU (eN eS I)<|lM I<|tZ<|bK<|oP (ι:=Nat) (fun k=>[(0,.slice p rs.length c),(3,vi<|i5<|ls.take k),(9,.slice p rs.length c),(10,vi rs.length),(11,vi k)]) (fun _=>g) (fun _=>s) (fun k=>k≤rs.length) (fun k=>rs.length - k) 0
  sB rfl rfl (zf8 _) ?_
 rintro k K;have D:=kX ls k;refine rZ<|yL I<|tZ<|sQ<|iP I (fun u=>?_) (fun u=>?_)
 ·have j:k<ls.length:=oM;have l:k<rs.length:=oM;have x:=b.get (List.getElem?_eq_getElem j)<|List.getElem?_eq_getElem l;have F:=x.len;have d:=a.based oM;have y:=o6 j;have z:=kX ls<|k+1;refine kP<|tN<|sQ<|bK<|rZ<|lU (iA eS fW I I d oM sL)<|SL.q (eB ic I a.rd (List.getElem?_eq_getElem l) I) dC ?_;refine aT I<|sW I<|lM I<|lU (eN az I)<|yD I<|aT I<|sW I<|yL I<|tZ<|iP I (fun n=>?_) (fun n=>?_)
  ·exfalso;omega
  ·exact kP<|bN<|tN<|rG<|yD I<|lM I<|SL.nil<|ST.again (k+1) ⟨I,bG oM,I,I,I,trivial⟩ I I oM oM
 ·have G:ls.take k=ls:=tL oM;refine xI<|tX<|tX<|bX<|tN<|sW I<|lW (SO.call call114 I<|Fn E g s (i5<|ls.take k) oM) ?_;rintro nv _ _ ⟨rfl,rfl⟩;refine aT I<|sQ<|sW I<|lU (eN eS I)<|lM I<|tZ<|bK<|oP (ι:=Value×Nat) (fun i=>[(0,.slice p rs.length c),(6,i.1),(25,.slice p rs.length c),(26,vi rs.length),(27,vi i.2)]) (fun _=>g) (fun i=>rowA encInt 3 i.1 (ls.take i.2).flatten::s) (fun i=>i.2≤rs.length) (fun i=>rs.length - i.2) (nv,0)
   sB rfl rfl (zf8 _) ?_
  rintro ⟨L,m⟩ hm;dsimp only at hm ⊢;refine rZ<|yL I<|tZ<|sQ<|iP I (fun o=>?_) (fun o=>?_)
  ·have f:m<ls.length:=oM;have t:m<rs.length:=oM;have x:=b.get (List.getElem?_eq_getElem f)<|List.getElem?_eq_getElem t;have d:=a.based oM;have y:=o6 f;have z:=kX ls<|m+1;have H:=qB<|ls.take m;refine kP<|tN<|sQ<|bK<|rZ<|lU (iA eS fW I I d oM sL)<|SL.q (eB ic I a.rd (List.getElem?_eq_getElem t) I) dC ?_;refine aT I<|rG<|lM I<|lM I<|lW (aQ (e:=encInt) 0 sty32 I I I x oM oM) ?_;rintro cv' _ _ ⟨rfl,rfl⟩;refine lA I<|SL.nil<|bN<|tN<|rG<|yD I<|lM I<|SL.nil ?_;refine ST.to (fun w J=>?_) (g':=g) (s':=rowA encInt 3 cv' (ls.take<|m+1).flatten::s) ?_
   ·rw[tS f,List.flatten_append,List.flatten_singleton];exact J
   exact ST.again (cv',m+1) sB I I lN lN
  ·have A:ls.take m=ls:=tL oM;rw[A];exact xI<|tX<|tX<|bX<|tN<|sW I<|aT I<|rE<|za8 (.inl I) results66 I ⟨I,I⟩
def lbL (ls:List (List Int))(t:List Int):Nat:=(ls.filter fun x=>decide (au x t<0)).length
theorem Ep {α:Type}{p:α→Bool}{l:List α}{i:Nat}(e:i≤l.length)(c:∀ k (h:k<l.length),k<i→p l[k]=true)(d:∀ k (h:k<l.length),i≤k→p l[k]=false):(l.filter p).length=i:=by
 rw[← zj4 i l,zh8,ze7];have f1:(l.take i).filter p=l.take i:=List.filter_eq_self.2 fun x a=>by
  obtain ⟨k,b,rfl⟩:=zc8 a;rw[ze6] at b;rw[List.getElem_take];exact c k oM oM
 have f2:(l.drop i).filter p=[]:=List.filter_eq_nil_iff.2 fun x a=>by
  obtain ⟨k,b,rfl⟩:=zc8 a;rw[zf2] at b;rw[List.getElem_drop,d (i+k) oM oM];simp
 rw[f1,f2];simp;omega
theorem Al (E:World)(g:PH)(s:Own)(v u:Value)(ls:List (List Int))(t:List Int)(S:cQ g v ls)(O:dp g u t)(hl:ls.length<1099511627776)(w:∀ x∈ls,x.length<1099511627776)
  (P:∀ i j (V:i<ls.length) (B:j<ls.length),i<j→au ls[j] t<0→au ls[i] t<0) :
  Ctr Tryz.prog E 67 #[v,u,.func (.func 63) #[] #[]] g s (fun r g' s'=>(∃ b,r = .tuple #[vi<|lbL ls t,vb b])∧g=g'∧s=s'):=by
 obtain ⟨rs,a,d⟩:=S;have Q:=d.length;obtain ⟨p,c,rfl⟩:=za4 a;refine zb2 (args:=[.slice p rs.length c,u,.func (.func 63) #[] #[]]) func67 I ntmps67 (bE I)<|rZ<|lA I<|aT I<|sW I<|lU (eN eS I)<|aT I<|sW I<|lA I<|aT I<|sQ<|bK<|oP (ι:=Nat×Nat) (fun q=>[(0,.slice p rs.length c),(1,u),(2,.func (.func 63) #[] #[]),(8,vi rs.length),(9,vi q.1),(10,vi q.2)]) (fun _=>g) (fun _=>s)
  (fun q=>q.1≤q.2∧q.2≤ls.length∧(∀ k (h:k<ls.length),k<q.1→au ls[k] t<0)∧∀ k (h:k<ls.length),q.2≤k→¬ au ls[k] t<0) (fun q=>q.2 - q.1) (0,ls.length)
  ⟨rfl,rfl,rfl,rfl,rfl,bG oM,trivial⟩ rfl rfl ⟨zf8 _,Nat.le_refl _,fun k _ h=>absurd h oM,fun k T C=>absurd T (by dsimp only at C;omega)⟩ ?_
 rintro ⟨i,j⟩ ⟨D,B,l,m⟩;dsimp only at D B l m ⊢;refine sQ<|sW I<|lM I<|yL I<|tZ<|iP I (fun F=>?_) (fun F=>?_)
 ·have G:=a.based oM;have y:((i:Int)+(j:Int)) / 2=(((i+j) / 2:Nat):Int):=oM;have e:(i+j) / 2<ls.length:=oM;have z:(i+j) / 2<rs.length:=oM;have H:rs[((((i+j) / 2:Nat):Int)).toNat]?=some rs[(i+j) / 2]:=List.getElem?_eq_getElem z;have U:=d.get (List.getElem?_eq_getElem e)<|List.getElem?_eq_getElem z;have n:=w _<|gM e;refine kP<|tN<|bK<|sW I<|lM I<|yD I<|lU (ze1 uT3 jL I)<|lU (SU.shr I I dC)<|lU (SU.eq (ze1 jL uT3 I)<|ze4 vi<|(ly _ oM oM).trans y)<|aT I<|sW I<|lM I<|lM I<|lU (iA eS fW I I G oM sL)<|lK (eB ic I a.rd H I)<|lM I<|lW (SO.callV I I<|cU.mk (args:=[_,_]) (cap:=[]) call63<|lk E g _ _ _ ls[(i+j) / 2] t U O n) ?_;rintro _ _ _ ⟨rfl,rfl,rfl⟩;refine yL I<|tZ<|iP I (fun hc=>?_) (fun hc=>?_)
  ·refine rG<|lM I<|yD I<|lA I<|SL.nil<|bN<|ST.again ((i+j) / 2+1,j) sB I I ⟨lN,B,fun k J h=>?_,m⟩ lN;dsimp only at h
   rcases Nat.eq_or_lt_of_le (show k≤(i+j) / 2 by omega) with rfl | f
   ·exact hc
   ·exact P k ((i+j) / 2) J e f hc
  ·refine rG<|lM I<|lA I<|SL.nil<|bN<|ST.again (i,(i+j) / 2) sB I I ⟨lN,lN,l,fun k J h=>?_⟩ lN;dsimp only at h
   rcases Nat.eq_or_lt_of_le (show (i+j) / 2≤k by omega) with f | f
   ·subst f;exact hc
   ·exact fun K=>hc<|P ((i+j) / 2) k e J f K
 ·have L:i=j:=oM;subst L;have A:lbL ls t=i:=Ep B (fun k h f=>by simpa using l k h f) (fun k h f=>by simpa using m k h f);have M:=fun h=>a.based h;have K:(i:Int)<(rs.length:Int)→∃ r,rs[((i:Nat):Int).toNat]?=some r∧∃ x,dZ g x r∧x.length<1099511627776:=fun h=>by
   have C:i<ls.length:=oM;have R:i<rs.length:=oM;exact⟨rs[i],List.getElem?_eq_getElem R,ls[i],d.get (List.getElem?_eq_getElem C)<|List.getElem?_eq_getElem R,w _<|gM C⟩
  by_cases o:(i:Int)<(rs.length:Int)
  ·obtain ⟨r,hr,x,N,n⟩:=K o;have hd:decide ((i:Int)<(rs.length:Int))=true:=zg1 o;refine xI<|tX<|tX<|bX<|tN<|sW I<|lM I<|lM I<|lU (SU.eq (lS I I)<|ze4 vb hd)<|lM I<|yC I<|yC I<|yC I<|lY I I I (iA eS fW I I (M oM) oM sL)<|SL.gq (gT I I I dC) (eB ic I a.rd hr I) dC<|yC I<|ze3 (gT I I I dC) (SO.callV I I<|cU.mk (args:=[_,_]) (cap:=[]) call63<|lk E g _ _ _ x t N O n) dC ?_;rintro _ _ _ ⟨rfl,rfl,rfl⟩;exact lY I I I (eQ I I)<|yP I<|lA I<|aT I<|rE<|ST.ret2 (.inl I) results67 I I ⟨⟨_,by rw[A]⟩,I,I⟩
  ·have hd:decide ((i:Int)<(rs.length:Int))=false:=zf9 o;exact xI<|tX<|tX<|bX<|tN<|sW I<|lM I<|lM I<|lU (SU.eq (lS I I)<|ze4 vb hd)<|lM I<|yA I<|yA I<|yA I<|yA I<|yA I<|yA I<|yA I<|yA I<|yF I<|lA I<|aT I<|rE<|ST.ret2 (.inl I) results67 I I ⟨⟨_,by rw[A]⟩,I,I⟩
theorem bA (a b:Int):(a<b∧ij a b = -1)∨(a=b∧ij a b=0)∨(b<a∧ij a b=1):=by
 unfold ij;by_cases h:a<b
 ·exact .inl ⟨h,zg3 h⟩
 ·by_cases c:a>b
  ·exact .inr<|.inr ⟨c,by rw[zg2 h,zg3 c]⟩
  ·exact .inr<|.inl ⟨oM,by rw[zg2 h,zg2 c]⟩
theorem mu:∀ a b:List Int,ii b a = - ii a b
 | [],[]=>rfl
 | [],_::_=>rfl
 | _::_,[]=>rfl
 | x::a,y::b=>by
  have ih:=mu a b;simp only[ii]
  rcases bA x y with ⟨h,e⟩ | ⟨h,e⟩ | ⟨h,e⟩ <;> rcases bA y x with ⟨c,e'⟩ | ⟨c,e'⟩ | ⟨c,e'⟩ <;> simp[e,e'] <;> omega
theorem Bq:∀ a b:List Int,ii a b=0↔a=b
 | [],[]=>by simp[ii]
 | [],_::_=>by simp[ii]
 | _::_,[]=>by simp[ii]
 | x::a,y::b=>by
  have ih:=Bq a b;simp only[ii]
  rcases bA x y with ⟨h,e⟩ | ⟨h,e⟩ | ⟨h,e⟩
  ·simp[e];omega
  ·subst h;simp[e,ih]
  ·simp[e];omega
theorem rM:∀ a b c:List Int,ii a b<0→ii b c<0→ii a c<0
 | [],[],_,h,_=>by simp[ii] at h
 | [],_::_,[],_,h=>by simp[ii] at h
 | [],_::_,_::_,_,_=>by simp[ii]
 | _::_,[],_,h,_=>by simp[ii] at h
 | _::_,_::_,[],_,h=>by simp[ii] at h
 | x::a,y::b,z::c,g,i=>by
  have ih:=rM a b c;simp only[ii] at g i ⊢
  rcases bA x y with ⟨h,e⟩ | ⟨h,e⟩ | ⟨h,e⟩ <;> rcases bA y z with ⟨j,e'⟩ | ⟨j,e'⟩ | ⟨j,e'⟩ <;> rcases bA x z with ⟨f,d⟩ | ⟨f,d⟩ | ⟨f,d⟩ <;> simp[e,e',d] at g i ⊢ <;> first | omega | exact ih g i
theorem jf (a b:List Int):au b a = - au a b:=by
 have d:=mu a b;unfold au
 rcases bA a.length b.length with ⟨h,e⟩ | ⟨h,e⟩ | ⟨h,e⟩ <;> rcases bA b.length a.length with ⟨c,e'⟩ | ⟨c,e'⟩ | ⟨c,e'⟩ <;> simp[e,e'] <;> omega
theorem pP (a b:List Int):au a b=0↔a=b:=by
 have d:=Bq a b;unfold au
 rcases bA a.length b.length with ⟨h,e⟩ | ⟨h,e⟩ | ⟨h,e⟩
 ·simp[e];intro c;rw[c] at h;omega
 ·simp[e,d]
 ·simp[e];intro c;rw[c] at h;omega
theorem eV (a b c:List Int)(g:au a b<0)(i:au b c<0):au a c<0:=by
 have ih:=rM a b c;unfold au at *
 rcases bA a.length b.length with ⟨h,e⟩ | ⟨h,e⟩ | ⟨h,e⟩ <;> rcases bA b.length c.length with ⟨j,e'⟩ | ⟨j,e'⟩ | ⟨j,e'⟩ <;> rcases bA a.length c.length with ⟨f,d⟩ | ⟨f,d⟩ | ⟨f,d⟩ <;> simp[e,e',d] at g i ⊢ <;> first | omega | exact ih g i
theorem cG (a:List Int):au a a=0:=(pP a a).2 rfl
theorem eh (a b:List Int):au a b<0∨a=b∨au b a<0:=by
 have c:=jf a b
 rcases Int.lt_trichotomy (au a b) 0 with h | h | h
 ·exact .inl h
 ·exact .inr<|.inl<|(pP a b).1 h
 ·exact .inr<|.inr oM
theorem il (a b c:List Int)(f:¬ au a b<0)(d:¬ au b c<0):¬ au a c<0:=by
 intro e
 rcases eh a b with h | h | h
 ·exact f h
 ·subst h;exact d e
 ·exact d<|eV b a c h e
def tr (l:List (List Int)):Prop:=l.Pairwise fun a b=>¬ au b a<0
def EE (x:List Int):List (List Int)→List (List Int)
 | []=>[x]
 | y::r=>if au y x<0 then y::EE x r else x::y::r
def og:List (List Int)→List (List Int)
 | []=>[]
 | x::r=>EE x<|og r
theorem oG (x:List Int):∀ l,(EE x l).Perm (x::l)
 | []=>.refl _
 | y::r=>by
  unfold EE;split
  ·exact ((oG x r).cons y).trans<|.swap x y r
  ·exact .refl _
theorem iY:∀ l,(og l).Perm l
 | []=>.refl _
 | x::r=>(oG x<|og r).trans<|(iY r).cons x
theorem yl (x:List Int):∀ {l},tr l→tr (EE x l)
 | [],_=>List.pairwise_singleton _ _
 | y::r,h=>by
  obtain ⟨b,c⟩:=zk5.1 h;unfold EE;split
  ·rename_i a;refine zk5.2 ⟨fun z hz=>?_,yl x c⟩
   rcases zf3.1 ((oG x r).subset hz) with rfl | hz
   ·intro d;have:=eV y z y a d;rw[cG] at this;omega
   ·exact b z hz
  ·rename_i a;refine zk5.2 ⟨fun z hz=>?_,h⟩
   rcases zf3.1 hz with rfl | hz
   ·exact a
   ·exact il z y x (b z hz) a
theorem jF:∀ l,tr (og l)
 | []=>List.Pairwise.nil
 | x::r=>yl x<|jF r
theorem o8:∀ {l m:List (List Int)},tr l→tr m→l.Perm m→l=m
 | [],m,_,_,h=>(List.nil_perm.1 h).symm
 | x::l,[],_,_,h=>by have:=h.length_eq;simp at this
 | x::l,y::m,hl,hm,h=>by
  obtain ⟨f,g⟩:=zk5.1 hl;obtain ⟨i,j⟩:=zk5.1 hm;have b:x=y:=by
   have c:x∈y::m:=h.subset dO;have d:y∈x::l:=h.symm.subset dO
   rcases zf3.1 c with e | c
   ·exact e
   ·rcases zf3.1 d with e | d
    ·exact e.symm
    ·rcases eh x y with a | a | a
     ·exact absurd a<|i x c
     ·exact a
     ·exact absurd a<|f y d
  subst b;rw[o8 g j<|h.cons_inv]
open Go Go.Sy Go.Pl Go.Proofs Go.Shelf Go.Sort
def Tryz.sortF_ren:Ren :=
 {
  f:=fun x =>
   match x with
   | 6=>62
   | 15=>97
   | 14=>112
   | 28=>149
   | 29=>150
   | 20=>172
   | 21=>173
   | 22=>174
   | 23=>175
   | 24=>176
   | 25=>177
   | 26=>178
   | 27=>179
   | 46=>207
   | 47=>191
   | 48=>192
   | 49=>208
   | 50=>209
   | 57=>232
   | n=>n,
  t:=fun x =>
   match x with
   | 22=>22
   | 24=>32
   | 25=>105
   | 3=>3
   | 39=>138
   | 0=>0
   | 53=>181
   | 55=>183
   | 4=>4
   | 46=>175
   | 45=>174
   | 50=>108
   | 5=>5
   | 9=>9
   | 66=>217
   | 70=>221
   | 76=>234
   | 77=>235
   | n=>n,
  g:=fun x =>
   have n:=x;
   n }
theorem Tryz.sortF:SlLaysF.n6 Tryz.prog Tryz.sortF_ren :=
  {
  mixed:=Eq.refl true,
  f6 :=
   Exists.intro "slices.SortFunc[[][]int,[]int]"
    ⟨zg5 (id (Eq.refl true)),
     zb8 func62
      (ze4 some
       kR)⟩,
  f14 :=
   Exists.intro "slices.pdqsortCmpFunc[[]int]"
    ⟨zg5 (id (Eq.refl true)),
     zb8 func112
      (ze4 some
       kR)⟩,
  f15:=zb8 func97<|ze4 some kR,
  f20 :=
   Exists.intro "slices.insertionSortCmpFunc[[]int]"
    ⟨zg5 (id (Eq.refl true)),
     zb8 func172
      (ze4 some
       kR)⟩,
  f21 :=
   Exists.intro "slices.heapSortCmpFunc[[]int]"
    ⟨zg5 (id (Eq.refl true)),
     zb8 func173
      (ze4 some
       kR)⟩,
  f22 :=
   Exists.intro "slices.breakPatternsCmpFunc[[]int]"
    ⟨zg5 (id (Eq.refl true)),
     zb8 func174
      (ze4 some
       kR)⟩,
  f23 :=
   Exists.intro "slices.choosePivotCmpFunc[[]int]"
    ⟨zg5 (id (Eq.refl true)),
     zb8 func175
      (ze4 some
       kR)⟩,
  f24 :=
   Exists.intro "slices.reverseRangeCmpFunc[[]int]"
    ⟨zg5 (id (Eq.refl true)),
     zb8 func176
      (ze4 some
       kR)⟩,
  f25 :=
   Exists.intro "slices.partialInsertionSortCmpFunc[[]int]"
    ⟨zg5 (id (Eq.refl true)),
     zb8 func177
      (ze4 some
       kR)⟩,
  f26 :=
   Exists.intro "slices.partitionEqualCmpFunc[[]int]"
    ⟨zg5 (id (Eq.refl true)),
     zb8 func178
      (ze4 some
       kR)⟩,
  f27 :=
   Exists.intro "slices.partitionCmpFunc[[]int]"
    ⟨zg5 (id (Eq.refl true)),
     zb8 func179
      (ze4 some
       kR)⟩,
  f28:=zb8 func149<|ze4 some kR,
  f29:=zb8 func150<|ze4 some kR,
  f46 :=
   Exists.intro "slices.siftDownCmpFunc[[]int]"
    ⟨zg5 (id (Eq.refl true)),
     zb8 func207
      (ze4 some
       kR)⟩,
  f47:=zb8 func191<|ze4 some kR,
  f48:=zb8 func192<|ze4 some kR,
  f49 :=
   Exists.intro "slices.medianAdjacentCmpFunc[[]int]"
    ⟨zg5 (id (Eq.refl true)),
     zb8 func208
      (ze4 some
       kR)⟩,
  f50 :=
   Exists.intro "slices.medianCmpFunc[[]int]"
    ⟨zg5 (id (Eq.refl true)),
     zb8 func209
      (ze4 some
       kR)⟩,
  f57 :=
   Exists.intro "slices.order2CmpFunc[[]int]"
    ⟨zg5 (id (Eq.refl true)),
     zb8 func232
      (ze4 some
       kR)⟩,
  t0:=uT0,a0:=isAgg0,z0:=sizeOf0,v0:=zm4,t3:=uT3,
  a3:=iT3,z3:=zT3,v3:=zl4,t4:=uT4,a4:=isAgg4,
  z4:=zT4,v4:=zl9,t5:=uT5,a5:=isAgg5,z5:=sizeOf5,
  v5:=zeroValue5,t9:=uT9,a9:=isAgg9,z9:=sizeOf9,v9:=zeroValue9,
  t22:=eS,a22:=isAgg22,z22:=sizeOf22,v22:=zeroValue22,a24:=ic,
  z24:=fW,t25:=underlying105,a25:=isAgg105,z25:=sizeOf105,
  v25:=zeroValue105,t39:=jL,a39:=isAgg138,z39:=sizeOf138,
  v39:=zeroValue138,t45:=underlying174,a45:=isAgg174,z45:=sizeOf174,
  v45:=zeroValue174,t46:=underlying175,a46:=isAgg175,z46:=sizeOf175,
  v46:=zeroValue175,t50:=underlying108,a50:=isAgg108,z50:=sizeOf108,
  v50:=zeroValue108,t53:=underlying181,a53:=isAgg181,z53:=sizeOf181,
  v53:=zeroValue181,t55:=ng,a55:=isAgg183,z55:=sizeOf183,
  v55:=zeroValue183,t66:=underlying217,a66:=isAgg217,z66:=sizeOf217,
  v66:=zeroValue217,t70:=underlying221,a70:=isAgg221,z70:=sizeOf221,
  v70:=zeroValue221,t76:=underlying234,a76:=isAgg234,z76:=sizeOf234,
  v76:=zeroValue234,t77:=underlying235,a77:=isAgg235,z77:=sizeOf235,
  v77:=zeroValue235 }
structure LV (g:PH) where
 sv:Sv
 l:List Int
 h:dZ g l sv
 len:l.length<1099511627776
def LV.val {g:PH}(x:LV g):Value:=.slice x.sv.p x.sv.n x.sv.c
def lh (g:PH):Enc (LV g) 1:=⟨fun x=>[x.val],fun _=>rfl,fun _ u hu=>by simp at hu;subst hu;rfl,by decide⟩
instance (g:PH):Inhabited (LV g):=⟨⟨⟨none,0,0⟩,[],zc1 g 1,by decide⟩⟩
theorem Bl {g:PH}(l:List (LV g)):l.flatMap (lh g).enc=l.map LV.val:=by
 induction l with
 | nil=>rfl
 | cons a t ih=>simp only[zh7,zg6,ih];rfl
def xA (W:World):PH:=fun b=>W.heap[b]?
theorem Ey (W:World):At W (xA W) [] W:=⟨rfl,⟨rfl,Nat.le_refl _⟩,rfl,fun _ _ h=>h,by simp,by simp,List.Pairwise.nil⟩
theorem yQ {W w':World}(h:At W (xA W) [] w'):∃ q c,w'=grow (W.drewN q) c:=by
 refine⟨w'.drawn - W.drawn,w'.heap.extract W.heap.size,?_⟩;have a:∀ k,k<W.heap.size→w'.heap[k]?=W.heap[k]?:=fun k d=>by
  rw[h.known k W.heap[k] (by simp[xA,d]),Array.getElem?_eq_getElem d]
 have j:W.heap.size≤w'.heap.size:=by
  rcases Nat.eq_zero_or_pos W.heap.size with l | l
  ·omega
  ·have:=a (W.heap.size - 1) oM;rw[Array.getElem?_eq_getElem (xs:=W.heap) oM] at this;have:=(Array.getElem?_eq_some_iff.1 this).1;omega
 have b:w'.heap=W.heap++w'.heap.extract W.heap.size:=by
  apply Array.ext_getElem?;intro k;rw[Array.getElem?_append];split
  ·exact a k io
  ·rename_i d;rw[Array.getElem?_extract];by_cases m:k<w'.heap.size
   ·rw[zg3 oM];congr 1;omega
   ·rw[zg2 oM,Array.getElem?_eq_none oM]
 obtain ⟨hp,p,r,n,ou⟩:=w';have f:=h.os;have g:=h.tape;have i:=h.output;simp only at f g i b;simp only[grow,World.drewN];obtain ⟨e,o⟩:=g;subst f;subst e;subst i;congr 1;omega
theorem Fq {E:World}{g:PH}{s:Own}{l:List (LV g)}{w:World}{b off:Nat}(j:At E g s w)(hb:g b=none):CmpLays1 Tryz.prog 63 #[] (LV.val (g:=g)) (fun x y=>au x.l y.l) b off l.toArray.size w:=by
 intro m os dk q x y;have a:Le g (xA<|sortWorld LV.val w b off m dk os):=fun k o c=>by
  have n:=j.known k o c;have d:=j.lt c;have f:b≠k:=fun e=>by rw[e] at hb;rw[hb] at c;cases c
  show (grow (putRow LV.val (Sort.ahead w m) b off dk) os).heap[k]?=some o;rw[heap_grow_old _ _ (by simpa using d)];simp[putRow,mapBlock,Sort.ahead,Array.getElem?_modify,f,n]
 have p:=lk (sortWorld LV.val w b off m dk os) (xA _) [] x.val y.val x.l y.l (za5 x.h a) (za5 y.h a) x.len _ (Ey _);refine p.mono ?_;rintro e w' ⟨v',g',s',rfl,i,rfl,rfl,rfl⟩;exact⟨I,yQ i⟩
theorem wD (E:World)(g:PH)(s:Own)(v:Value)(l:List (LV g))(V:0<l.length)(hl:l.length<1099511627776) :
  Ctr Tryz.prog E 62 #[v,.func (.func 63) #[] #[]] g (rowA (lh g) 32 v l::s) (fun _ g' s'=>g=g'∧∃ l':List (LV g),l'.Perm l∧l'.map LV.l=og (l.map LV.l)∧s'=rowA (lh g) 32 v l'::s):=by
 intro w F;obtain ⟨m,r⟩:=gX (i:=0) F rfl
 rcases r with ⟨p,rfl,hn⟩ | ⟨b,cap,cur,rfl,hb,O,G,H,P⟩
 ·omega
 ·have J:=F.fresh _ (by simp:rowA (lh g) 32 (.slice (some ⟨b,0,none⟩) l.length<|cap+1) l∈_) b rfl;have d:=(Array.getElem?_eq_some_iff.1 hb).1;have K:cur.toList.take l.length=l.map LV.val:=by rw[← Bl];simpa using P
  have Q:Holds LV.val w b 0 l.toArray:=by
   intro j q;have t:j<l.length:=by simpa using q
   refine⟨?_,by simp[World.frozen?,hb]⟩;have m:(cur.toList.take l.length)[j]?=(l.map LV.val)[j]?:=by rw[K]
   rw[List.getElem?_take_of_lt t] at m;simp only[World.cell?,hb,Nat.zero_add];simp only[Option.isSome_none,Bool.false_eq_true,if_false];rw[← Array.getElem?_toList,m];simp[t]
  have u:SWO (ltOf fun x y:LV g=>au x.l y.l):=⟨fun x=>by simp[ltOf,cG],fun x y z m r=>by simp[ltOf] at *;exact eV _ _ _ m r,fun x y z m r=>by
   simp only[ltOf,decide_eq_false_iff_not] at *;exact il _ _ _ m r⟩
  refine (Any.slices_SortFunc Tryz.sortF LV.val (fun _=>I) (fun x y:LV g=>au x.l y.l) u 63 #[] b 0 (cap+1) l.toArray w call63 (Fq F J.1) Q d (by simp;omega)).mono ?_;rintro e w' ⟨rfl,a,n,os,hp,L,rfl⟩;obtain ⟨a⟩:=a;have o:a.length=l.length:=by have:=hp.1;simpa using this
  have c:a.Perm l:=by
   have f:=hp.2.2;simp only[List.size_toArray,List.extract_toArray] at f;simpa [List.extract_eq_take_drop,o,tL<|Nat.le_of_eq o] using f
  have A:tr (a.map LV.l):=by
   rw[tr,zk6,zd1];intro i j R q M;have f:=L i j (zf8 _) M (by simp;omega);simp only[ltOf,decide_eq_false_iff_not] at f;simpa [R,q] using f
  have B:a.map LV.l=og (l.map LV.l):=o8 A (jF _)<|(c.map _).trans (iY _).symm;refine⟨_,g,rowA (lh g) 32 (.slice (some ⟨b,0,none⟩) l.length<|cap+1) a::s,I,?_,I,a,c,B,I⟩;have f:(sortWorld LV.val w b 0 n a.toArray os).heap[b]?=some (.cells (putCells LV.val 0 a.toArray cur) 32 (0,0)):=by
   show (grow (putRow LV.val (Sort.ahead w n) b 0 a.toArray) os).heap[b]?=_;rw[heap_grow_old _ _ (by simpa using d)];simp[putRow,mapBlock,Sort.ahead,Array.getElem?_modify,hb,onCells]
  have S:=F.turn (i:=0) (w':=sortWorld LV.val w b 0 n a.toArray os) (e':=rowA (lh g) 32 (.slice (some ⟨b,0,none⟩) l.length (cap+1)) a) rfl rfl ⟨rfl,Nat.le_add_right _ _⟩ rfl (by simp[sortWorld,grow,putRow,mapBlock,Sort.ahead]) (fun k U N=>by
    have C:b≠k:=fun e=>N (by rw[e];rfl);show (grow (putRow LV.val (Sort.ahead w n) b 0 a.toArray) os).heap[k]?=_;rw[heap_grow_old _ _ (by simpa using U)];simp[putRow,mapBlock,Sort.ahead,Array.getElem?_modify,C]) (by
    have:=eu (w:=sortWorld LV.val w b 0 n a.toArray os) (T:=32) (k:=1) (n:=a.length) (b:=b) (cap:=cap) (xs:=a.flatMap (lh g).enc) (by rw[(lh g).length]) f oM G (by simp[putCells];simpa using H) (by
     rw[Bl,Nat.mul_one];apply List.ext_getElem?;intro j;by_cases q:j<a.length
     ·rw[List.getElem?_take_of_lt q,Array.getElem?_toList];simp[putCells,q,show j<cur.size by omega]
     ·rw[List.getElem?_take_eq_none oM,List.getElem?_eq_none (by simp;omega)])
    rw[show rowA (lh g) 32 (.slice (some ⟨b,0,none⟩) l.length (cap+1)) a=row 32 1 (.slice (some ⟨b,0,none⟩) a.length (cap+1)) a.length (a.flatMap (lh g).enc) by simp only[rowA,o]];exact this) (fun W D=>by
    simp only[rowA,row,nu,zg9] at D;subst D;exact⟨(Array.getElem?_eq_some_iff.1 f).1,.inl I⟩)
  exact S
end Go.Proofs.YtdepcjnaieflmaaGreatDoor
