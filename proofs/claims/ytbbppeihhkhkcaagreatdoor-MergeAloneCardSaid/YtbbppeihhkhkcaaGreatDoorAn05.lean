/- 5 -/
import Derived.Test.YtbbppeihhkhkcaaGreatDoorAn04
import Derived.Shelf.SlSortCmp.Whole1
set_option linter.unusedSimpArgs false
set_option linter.unusedVariables false
namespace Go.Proofs.YtbbppeihhkhkcaaGreatDoor
open _root_.Go.Proofs.Tryz _root_.Go.Proofs.YtbbppeihhkhkcaaGreatDoor.Tryz
open Go Go.Sy Go.Pl Go.Proofs
set_option maxRecDepth 100000
def ay (tl:List Cl)(x:ak):List ak:=((ah tl x.cell).getD aH).sides
def jO (x:ak)(zl:List (Int×Int))(r:ak):List (Int×Int):=fx zl r.cell (x.sign * r.sign)
def fg (i:Int)(ml:List (Int×List Int))(r:ak):List (Int×List Int):=gJ ml r.cell i
def fy (tl:List Cl)(l:List ak):List (Int×Int):=l.foldl (fun zl x=>(ay tl x).foldl (jO x) zl) []
def e8 (tl:List Cl)(l:List ak):List (Int×List Int):=l.zipIdx.foldl (fun ml p=>(ay tl p.1).foldl (fg p.2) ml) []
def ly (jl:List (Int×List Int))(p:Int×List Int):List (Int×List Int):=match p.2 with
 | [a,b]=>gJ (gJ jl a b) b a
 | _=>jl
def dF (ml:List (Int×List Int)):List (Int×List Int):=ml.foldl ly []
def jz (jl:List (Int×List Int)):List Int:=dfs (j4 jl) (jl.length+1) 0 []
def bC (tl:List Cl)(c:Cl):Int :=
 if (fy tl c.sides).any (fun p=>decide (p.2≠0)) then 24
 else if (e8 tl c.sides).any (fun p=>decide ((p.2.length:Int)≠2)) then 25
 else if ((jz<|dF<|e8 tl c.sides).length:Int)≠c.sides.length then 25 else 0
def AOk (tl:List Cl)(c:Cl):Prop:=c.sides.length≤64∧(∀ x∈c.sides,x.sign=1∨x.sign = -1)∧∀ x∈c.sides,(ay tl x).length≤64∧∀ r∈ay tl x,r.sign=1∨r.sign = -1
theorem qP {tl:List Cl}{l:List ak}{x:ak}:fy tl (l++[x])=(ay tl x).foldl (jO x) (fy tl l):=by
 simp[fy,zj2]
theorem B4 {tl:List Cl}{l:List ak}{x:ak}:e8 tl (l++[x])=(ay tl x).foldl (fg l.length) (e8 tl l):=by
 simp[e8,List.zipIdx_append,zj2]
theorem sk {a b:Int}(c:a=1∨a = -1)(hb:b=1∨b = -1):a * b=1∨a * b = -1:=by
 rcases c with rfl | rfl <;> rcases hb with rfl | rfl <;> decide
theorem CL (ml:List (Int×List Int))(k x:Int):(gJ ml k x).map Prod.fst=if ml.any (fun p=>decide (p.1=k)) then ml.map Prod.fst else ml.map Prod.fst++[k]:=by
 induction ml with
 | nil=>rfl
 | cons p r ih =>
  obtain ⟨a,l⟩:=p;simp only[gJ];by_cases h:k=a
  ·subst h; simp
  ·have b:¬ a=k:=fun e=>h e.symm;rw[zg2 h];simp only[zg6,ih,List.any_cons,b,decide_false,Bool.false_or];split <;> simp
theorem Au {ml:List (Int×List Int)}(h:(ml.map Prod.fst).Nodup)(k x:Int):((gJ ml k x).map Prod.fst).Nodup:=by
 rw[CL];split
 ·exact h
 ·rename_i d;rw[List.nodup_append];refine⟨h,by simp,fun a f b hb e=>d ?_⟩;simp at hb;subst hb;obtain ⟨p,g,c⟩:=zf4.1 f;rw[zk1];exact⟨p,g,by simp[c,e]⟩
theorem kE (tl:List Cl)(l:List ak):((e8 tl l).map Prod.fst).Nodup:=by
 unfold e8;have a:∀ (q:List (ak×Nat)) (ml:List (Int×List Int)),(ml.map Prod.fst).Nodup→((q.foldl (fun ml p=>(ay tl p.1).foldl (fg p.2) ml) ml).map Prod.fst).Nodup:=by
  intro q;induction q with
  | nil=>intro ml h; exact h
  | cons p t ih =>
   intro ml h;refine ih _ ?_;have b:∀ (q:List ak) (ml:List (Int×List Int)),(ml.map Prod.fst).Nodup→((q.foldl (fg p.2) ml).map Prod.fst).Nodup:=by
    intro q;induction q with
    | nil=>intro ml h; exact h
    | cons r t ih=>intro ml h; exact ih _<|Au h _ _
   exact b _ _ h
 exact a _ _ (by simp)
theorem xB (ml:List (Int×List Int))(k x:Int):(gJ ml k x).length≤ml.length+1:=by
 induction ml with
 | nil=>simp[gJ]
 | cons p r ih =>
  obtain ⟨a,l⟩:=p;simp only[gJ];split <;> simp <;> omega
theorem wX {tl:List Cl}{l:List ak}(h:∀ x∈l,(ay tl x).length≤64):(e8 tl l).length≤64 * l.length:=by
 have d:∀ (q:List (ak×Nat)) (ml:List (Int×List Int)),(∀ p∈q,(ay tl p.1).length≤64)→(q.foldl (fun ml p=>(ay tl p.1).foldl (fg p.2) ml) ml).length≤ml.length+64 * q.length:=by
  intro q;induction q with
  | nil=>intro ml _; simp
  | cons p t ih =>
   intro ml c;have e:∀ (q:List ak) (ml:List (Int×List Int)),(q.foldl (fg p.2) ml).length≤ml.length+q.length:=by
    intro q;induction q with
    | nil=>intro ml; simp
    | cons r t ih =>
     intro ml;have f:=ih<|fg p.2 ml r;have g:=xB ml r.cell p.2;simp only[zj1,zf1];unfold fg at f ⊢;omega
   have j:=ih ((ay tl p.1).foldl (fg p.2) ml) (fun p b=>c p<|by simp[b]);have k:=e (ay tl p.1) ml;have m:=c p (by simp);simp only[zj1,zf1];omega
 have:=d l.zipIdx [] (fun p b=>h p.1 (by
  obtain ⟨a,i⟩:=p;exact (List.mem_zipIdx b).2.2 ▸ gM _))
 simpa [e8] using this
theorem wQ {α:Type}(f:α→Int){vt ms:List α}(m:∀ t∈vt,t∈ms)(n:(vt.map f).Perm (ms.map f))(hn:(ms.map f).Nodup):vt.Perm ms:=by
 have g:∀ {l:List α},(l.map f).Nodup→∀ a∈l,∀ b∈l,f a=f b→a=b:=by
  intro l;induction l with
  | nil=>intro _ a k; simp at k
  | cons c t ih =>
   intro h a k b hb e;simp only[zg6,zk4] at h
   rcases zf3.1 k with rfl | i <;> rcases zf3.1 hb with rfl | j
   ·rfl
   ·exact absurd (zf4.2 ⟨b,j,e.symm⟩) h.1
   ·exact absurd (zf4.2 ⟨a,i,e⟩) h.1
   ·exact ih h.2 a i b j e
 refine (List.perm_ext_iff_of_nodup (List.Pairwise.of_map f (fun a b d e=>d<|by rw[e])<|n.symm.nodup hn)<|List.Pairwise.of_map f (fun a b d e=>d<|by rw[e]) hn).2 fun c=>⟨m c,fun o=>?_⟩;obtain ⟨c',p,q⟩:=zf4.1<|n.symm.subset<|zf4.2 ⟨c,o,rfl⟩;rw[← g hn c' (m c' p) c o q];exact p
theorem DA (jl:List (Int×List Int))(a b x y:Int):y∈fj (gJ jl a b) x↔y∈fj jl x∨(x=a∧y=b):=by
 rw[uw];split
 ·rename_i h; simp[h]
 ·rename_i h; simp[h]
theorem lx (ml:List (Int×List Int))(x y:Int):y∈fj (dF ml) x↔∃ p∈ml,p.2=[x,y]∨p.2=[y,x]:=by
 have key:∀ (q:List (Int×List Int)) (jl:List (Int×List Int)),y∈fj (q.foldl ly jl) x↔y∈fj jl x∨∃ p∈q,p.2=[x,y]∨p.2=[y,x]:=by
  intro q;induction q with
  | nil=>intro jl; simp
  | cons p t ih =>
   intro jl;simp only[zj1,ih];have e:y∈fj (ly jl p) x↔y∈fj jl x∨(p.2=[x,y]∨p.2=[y,x]):=by
    obtain ⟨k,l⟩:=p;unfold ly;dsimp only
    match l with
    | []=>simp
    | [_]=>simp
    | [a,b] =>
     simp only[DA,List.cons.injEq,and_true];constructor
     ·rintro ((h | ⟨c,d⟩) | ⟨c,d⟩)
      ·exact .inl h
      ·exact .inr<|.inl ⟨c.symm,d.symm⟩
      ·exact .inr<|.inr ⟨d.symm,c.symm⟩
     ·rintro (h | ⟨c,d⟩ | ⟨c,d⟩)
      ·exact .inl<|.inl h
      ·exact .inl<|.inr ⟨c.symm,d.symm⟩
      ·exact .inr ⟨d.symm,c.symm⟩
    | _::_::_::q=>simp
   rw[e];constructor
   ·rintro ((h | h) | ⟨q,c,d⟩)
    ·exact .inl h
    ·exact .inr ⟨p,by simp,h⟩
    ·exact .inr ⟨q,by simp[c],d⟩
   ·rintro (h | ⟨q,c,d⟩)
    ·exact .inl<|.inl h
    ·rcases zf3.1 c with rfl | c
     ·exact .inl<|.inr d
     ·exact .inr ⟨q,c,d⟩
 unfold dF;rw[key];simp[fj]
theorem BL {a b:List (Int×List Int)}(h:a.Perm b):(jz<|dF a).length=(jz<|dF b).length:=by
 have hr:∀ (a b:List (Int×List Int)),a.Perm b→∀ x,Rch (j4<|dF a) 0 x→Rch (j4<|dF b) 0 x:=by
  intro a b h x e;refine e.mono (fun u l hl y d=>⟨_,I,?_⟩) (fun _ _=>by simp[j4]);simp only[j4,zg9] at hl;subst hl;rw[lx] at d ⊢;obtain ⟨p,f,g⟩:=d;exact⟨p,h.subset f,g⟩
 have i:∀ jl:List (Int×List Int),nZ jl []<jl.length+1:=fun jl=>zl1<|zc6 _ _;have c:∀ (q:List (Int×List Int)) (x:Int),x∈jz (dF q)↔Rch (j4<|dF q) 0 x:=fun q x=>vU (cnt:=nZ<|dF q) (fun v v' h=>jL h) (ln _) (i _) (by simp[j4]) x;refine List.Perm.length_eq ((List.perm_ext_iff_of_nodup (jK _ _ _ _<|by simp)<|jK _ _ _ _<|by simp).2 fun x=>?_);exact (c a x).trans<|Iff.trans ⟨hr a b h x,hr b a h.symm x⟩ (c b x).symm
theorem xu (E:World)(g:PH)(s:Own)(v:Value)(tl:List Cl)(c:Cl)(r:Rc)(hv:Tab g v tl)(hc:an g c r)(n1:AOk tl c) :
  Ctr Tryz.prog E 55 #[v,rcv r] g s (fun r g' s'=>r=vi (bC tl c)∧g=g'∧s=s'):=by
 obtain ⟨b,mt,iv,rs,rfl,hb,hm,hI,g9⟩:=hv;obtain ⟨ri,rd,rp,rn,d⟩:=r;have c7:SlA encSide g (.slice rp rn d) c.sides:=hc.2.2;have n2:rn=c.sides.length:=zc2 c7;have n3:rd=c.dim:=hc.2.1;subst n2 n3;obtain ⟨r7,n5,h0⟩:=n1;have n6:=fun h=>c7.based h;refine zb2 (args:=[pp b 0,rcv ⟨ri,c.dim,rp,c.sides.length,d⟩]) func55 I ntmps55 (bE I)<|rZ (bW (bO I) fun b3=>?_);refine aT I<|rZ<|lW (SO.mkMap) ?_;rintro _ _ _ ⟨mz,rfl,rfl,rfl⟩;refine lW (SO.mkMap) ?_;rintro _ _ _ ⟨mm,rfl,rfl,rfl⟩;refine lA I<|aT I<|SC.cut (ι:=List (Int×Int)×Ms) (fun _=>[(3,pp b3 0),(5,.map<|some mz),(6,.map<|some mm)]) (fun _=>g) (fun q=>mp mm (jE q.2)::mp mz (fZ q.1)::pt b3 (.cells #[vi ri,vi c.dim,.slice rp c.sides.length d] 56 (0,0))::(fX q.2++s))
  (fun q=>q.1=fy tl c.sides∧ib q.2=e8 tl c.sides∧∀ t∈q.2,t.2.2.length≤4096) ?_ ?_
 ·refine rZ<|lU (fA ao I aM I)<|SL.K (qL br I<|cO 2 I I)<|lU (eN be I)<|lM I<|tZ<|bK<|oP (ι:=Nat×List (Int×Int)×Ms) (fun q=>[(0,pp b 0),(3,pp b3 0),(5,.map<|some mz),(6,.map<|some mm),(21,.slice rp c.sides.length d),(22,vi c.sides.length),(23,vi q.1)]) (fun _=>g)
   (fun q=>mp mm (jE q.2.2)::mp mz (fZ q.2.1)::pt b3 (.cells #[vi ri,vi c.dim,.slice rp c.sides.length d] 56 (0,0))::(fX q.2.2++s))
   (fun q=>q.1≤c.sides.length∧q.2.1=fy tl (c.sides.take q.1)∧ib q.2.2=e8 tl (c.sides.take q.1)∧(∀ p∈q.2.1,-((64 * q.1:Nat):Int)≤p.2∧p.2≤((64 * q.1:Nat):Int))∧∀ t∈q.2.2,t.2.2.length≤64 * q.1) (fun q=>c.sides.length - q.1)
   (0,[],[]) sB rfl rfl ⟨zf8 _,by simp[fy],by simp[e8,ib],by simp,by simp⟩ ?_
  rintro ⟨k,c9,h3⟩ ⟨hk,i,a4,b6,Q⟩;dsimp only at hk i a4 b6 Q ⊢;refine rZ<|yL I<|tZ<|sQ<|iP I (fun n7=>?_) (fun n7=>?_)
  ·have d0:k<c.sides.length:=oM;have n8:=n6 oM;have o1:c.sides[((k:Nat):Int).toNat]?=some c.sides[k]:=List.getElem?_eq_getElem d0;have h4:c.sides.take (k+1)=c.sides.take k++[c.sides[k]]:=tS d0;have h5:c.sides[k]∈c.sides:=gM d0;have h6:(c.sides.take k).length=k:=by simp; omega
   generalize c.sides[k]=y at *;obtain ⟨x,o2,s2,p0⟩:=dD g9 gW y.cell;obtain ⟨xi,xd,xp,xn,xc⟩:=x;have a5:SlA encSide g (.slice xp xn xc) (ay tl y):=p0.2.2;have p1:xn=(ay tl y).length:=zc2 a5;subst p1;have h7:=n5 y h5;obtain ⟨p2,h8⟩:=h0 y h5;generalize d1:ay tl y=sy at a5 p2 h8;refine kP (tN<|sQ<|bK<|sW I<|lU (iA be aY I I n8 oM sL)<|SL.K (SQ.elemA jn aY I c7.rd o1)<|bW (aL zm1) fun b8=>?_);refine lA I<|oZ (sK 0 aY I I I I I sB)<|tZ<|sQ<|dW [] [(0,2),(1,2),(2,2),(3,1),(4,2),(5,1),(6,1),(7,2),(8,2),(9,2)] ze5 kR<|yM I<|pU I (nC I)<|pU I (fA kI I jx I)<|pK I (qL jB I<|cK hb I)<|pU I (fA c4 I zT3 I)<|pK I (qL iT3 I<|cO 0 I I)<|pK I (SQ.eq (v':=rcv ⟨xi,xd,xp,sy.length,xc⟩) (SQ.lookup mty125 I I<|bh.known hm)<|by rw[o2,d1]) ?_;refine pU I (SU.field ao I br I I)<|pU I (eN be I)<|yM I<|pN<|tN<|bK ?_;refine oP (ι:=Nat×List (Int×Int)×Ms) (fun q=>[(0,pp b 0),(3,pp b3 0),(5,.map<|some mz),(6,.map<|some mm),(7,vi k),(8,pp b8 0),(21,.slice rp c.sides.length d),(22,vi c.sides.length),(23,vi k),(35,.slice xp sy.length xc),(36,vi sy.length),(37,vi q.1)]) (fun _=>g)
    (fun q=>pt b8 (.cells #[vi y.cell,vi y.sign] 75 (0,0))::mp mm (jE q.2.2)::mp mz (fZ q.2.1)::pt b3 (.cells #[vi ri,vi c.dim,.slice rp c.sides.length d] 56 (0,0))::(fX q.2.2++s))
    (fun q=>q.1≤sy.length∧q.2.1=(sy.take q.1).foldl (jO y) c9∧ib q.2.2=(sy.take q.1).foldl (fg k) (e8 tl<|c.sides.take k)∧(∀ p∈q.2.1,-((64 * k+q.1:Nat):Int)≤p.2∧p.2≤((64 * k+q.1:Nat):Int))∧∀ t∈q.2.2,t.2.2.length≤64 * k+q.1) (fun q=>sy.length - q.1)
    (0,c9,h3) sB rfl rfl ⟨zf8 _,by simp,by simp[a4],by simpa using b6,by simpa using Q⟩ ?_
   rintro ⟨j,zl,ms⟩ ⟨hj,hz,L,a9,d2⟩;dsimp only at hj hz L a9 d2 ⊢;refine rZ<|yL I<|tZ<|sQ<|iP I (fun h9=>?_) (fun h9=>?_)
   ·have d3:j<sy.length:=oM;have p3:=a5.based oM;have i0:sy[((j:Nat):Int).toNat]?=some sy[j]:=List.getElem?_eq_getElem d3;have i1:sy.take (j+1)=sy.take j++[sy[j]]:=tS d3;have i2:=h8 _ (gM d3);generalize sy[j]=z at *;obtain ⟨d4,j0,u,lu,F,d5,d6,d7,d8,d9⟩:=Gu ms z.cell;have b7:=d8 _ d2;have e0:=b7 _ (zg4 F);dsimp only at e0;have t0:=mZ oM a9 z.cell;have t1:=sk h7 i2;refine SC.to (fun w hw=>d9 E g [pt b8 (.cells #[vi y.cell,vi y.sign] 75 (0,0)),mp mm (jE ms),mp mz (fZ zl),pt b3 (.cells #[vi ri,vi c.dim,.slice rp c.sides.length d] 56 (0,0))] s w hw) ?_;refine kP (tN (sQ (bK (rZ (lU (iA be aY I I p3 oM sL) (SL.K (SQ.elemA jn aY I a5.rd i0) (bW (aL zm1) fun t2=>?_)))))));refine oZ (sK 0 aY I I I I I sB)<|tZ (sW I (lU (fA c4 I zT3 I) (SL.K (qL iT3 I (cO 0 I I)) (SL.K (SQ.eq (v':=vi (eO zl z.cell)) (SQ.lookup mty167 I I (bh.own 3 I)) (lB zl _)) (lU (fA c4 I zT3 I) (SL.K (qL iT3 I (cO 1 I I)) (lU (fA c4 I zT3 I) (SL.K (qL iT3 I (cO 0 I I)) (lU (SU.mul (m:=y.sign) (n:=z.sign) I I oM) (lU (aD (m:=eO zl z.cell) (n:=y.sign * z.sign) I I oM) (lO (SO.mapUpdate 3 mty167 I I I I) ?_)))))))))));rintro _ _ _ ⟨rfl,rfl⟩;rw[s8];refine tZ<|SC.drawT 5 [10] [(0,2),(1,2),(2,1),(3,2),(4,2),(5,1),(6,1),(7,2),(8,0),(9,0),(10,0)] ze5 kR<|yM rfl (pU rfl (fA c4 rfl zT3 rfl) (pK rfl (qL iT3 rfl (cO 0 rfl rfl)) (yM rfl (pU rfl (fA c4 rfl zT3 rfl) (pK rfl (qL iT3 rfl (cO 0 rfl rfl)) (pK rfl (SQ.eq (SQ.lookup mty168 rfl rfl (bh.own 2 rfl)) d5) (yM rfl (SP.o rfl (bS sty52 rfl rfl rfl (ab sB) dC) dC (.inr (by rintro _ _ _ ⟨p5,rfl,rfl,rfl⟩; exact⟨by exact zb9 _,(by exact .cons _ (List.take_sublist _ _))⟩)) ?_))))))));rintro _ _ _ ⟨p5,rfl,rfl,rfl⟩;refine SP.o I (SO.app1 (j0+5) ((lu++[(k:Int)]).flatMap encInt.enc) (lu++[(k:Int)]).length sty52 I I I (sw F s) I ⟨I,trivial⟩ (by simp[encInt]; rfl) (by simp) lN lN) dC (.inr (by rintro u' _ _ ⟨rfl,rfl⟩; exact⟨by exact zb9 _,(by exact j6 _ _ _ _)⟩)) ?_;rintro u' _ _ ⟨rfl,rfl⟩;refine SP.on I (SO.mapUpdate 2 mty168 I I I I) (.inl dC) ?_;rintro _ _ _ ⟨rfl,rfl⟩;refine pN (bN (tN (rG (yD I (lM I (SL.nil ?_))))));refine dR (s':=pt b8 (.cells #[vi y.cell,vi y.sign] 75 (0,0))::mp mm (jE (d4.set j0 (z.cell,u',lu++[(k:Int)])))::mp mz (fZ (fx zl z.cell (y.sign * z.sign)))::pt b3 (.cells #[vi ri,vi c.dim,.slice rp c.sides.length d] 56 (0,0))::(fX (d4.set j0 (z.cell,u',lu++[(k:Int)]))++s)) (by
     rw[← d6 u' k,← su (v':=u') (l':=lu++[(k:Int)]) F s];exact .cons _ (.refl _)) ?_
    exact ST.again (j+1,fx zl z.cell (y.sign * z.sign),d4.set j0 (z.cell,u',lu++[(k:Int)])) sB I I ⟨lN,by rw[i1,zj2,← hz]; rfl,by rw[i1,zj2,← L,d7]; rfl,by
      have:=nb oM a9 z.cell (x:=y.sign * z.sign) oM;intro p hp;have:=this p hp;dsimp only at *;omega,fun t f=>by
      dsimp only at *
      rcases List.mem_or_eq_of_mem_set f with h | h
      ·have:=b7 t h; omega
      ·subst h; simp; omega⟩ lN
   ·refine xI (tX (tX (bX (bN (tN (rG (yD I (lM I (SL.nil ?_)))))))));have p6:sy.take j=sy:=tL oM;rw[p6] at hz L;refine dR (s':=mp mm (jE ms)::mp mz (fZ zl)::pt b3 (.cells #[vi ri,vi c.dim,.slice rp c.sides.length d] 56 (0,0))::(fX ms++s)) (.cons _ (.refl _)) ?_;exact ST.again (k+1,zl,ms) sB I I ⟨lN,by rw[h4,qP,d1,← i]; exact hz,by rw[h4,B4,d1,h6]; exact L,by
      intro p hp;have:=a9 p hp;dsimp only at *;omega,fun t f=>by have:=d2 t f; dsimp only at *; omega⟩ lN
  ·refine xI<|tX<|tX<|bX ?_;have p7:c.sides.take k=c.sides:=tL oM;rw[p7] at i a4;exact za9 (c9,h3) sB I I ⟨i,a4,fun t f=>by have:=Q t f; omega⟩
 ·rintro ⟨zl,ms⟩ ⟨hz,R,S⟩;dsimp only at hz R S ⊢;refine cP (zk3 _ _ _) (SC.freezeMap fun g1 p9 q0=>?_);refine SC.freezeMap fun g2 i3 L=>?_;refine cP List.perm_middle.symm (SC.freezeRows fun g3 e1 e4=>?_);obtain ⟨j2,l0,T,U⟩:=q0.mono<|i3.trans e1;obtain ⟨M,A,V,H⟩:=L.mono e1;have W:=p9.trans<|i3.trans e1;have r8:ms.length≤4096:=by
   have h1:=wX (tl:=tl) (l:=c.sides) (fun x hx=>(h0 x hx).1);rw[← R] at h1;have h2:(ib ms).length=ms.length:=by simp[ib]
   omega
  refine sQ<|sW I<|lW (SO.range underlying167 I T) ?_;rintro _ _ _ ⟨it,rfl,rfl,rfl⟩;refine tZ<|bK<|oP (ι:=List MapEntry×List (Int×Value)) (fun _=>[(3,pp b3 0),(6,.map<|some mm),(64,pp it 0)]) (fun _=>g3)
   (fun q=>iter it mz j2 l0 q.1::pt b3 (.cells #[vi ri,vi c.dim,.slice rp c.sides.length d] 56 (0,0))::s)
   (fun q=>lV (fZ zl) j2 q.1 q.2∧∀ p∈q.2,p.2=vi 0) (fun q=>zl.length - q.2.length) ([],[]) sB rfl rfl ⟨lV.nil _ _,by simp⟩ ?_
  rintro ⟨vis,vl⟩ ⟨l1,e9⟩;dsimp only at l1 e9 ⊢;refine rZ<|lW (SO.nextP 0 I I T U l1) ?_;rintro _ _ _ ⟨rfl,f1⟩
  rcases f1 with ⟨rfl,rfl,f2⟩ | ⟨e,pr,he,X,q1,q2,b9,rfl,rfl⟩
  ·have i:(fy tl c.sides).any (fun p=>decide (p.2≠0))=false:=by
    rw[zk7];intro p hp;rw[← hz] at hp;have:=e9 (p.1,vi p.2)<|f2.symm.subset<|zf4.2 ⟨p,hp,rfl⟩;simpa using this
   refine yX I<|tZ<|sQ<|za1 I<|xI<|tX<|tX<|bX<|tN<|sQ<|SC.drop (s':=pt b3 (.cells #[vi ri,vi c.dim,.slice rp c.sides.length d] 56 (0,0))::s) (.cons _<|.refl _)<|rG<|lW (SO.mkMap) ?_;rintro _ _ _ ⟨mj,rfl,rfl,rfl⟩;refine bW (aL zeroValue168) fun B=>oZ (sK 0 sizeOf168 I I I I I sB)<|tZ<|sQ<|sW I<|lW (SO.range underlying168 I V) ?_;rintro _ _ _ ⟨N,rfl,rfl,rfl⟩;refine tZ<|bK<|oP (ι:=List MapEntry×List (Int×Value)×Ms×Ms) (fun _=>[(3,pp b3 0),(13,pp B 0),(73,pp N 0)]) (fun _=>g3)
    (fun q=>iter N mm M A q.1::pt B (.cells #[.map<|some mj] 168 (0,0))::mp mj (jE q.2.2.2)::pt b3 (.cells #[vi ri,vi c.dim,.slice rp c.sides.length d] 56 (0,0))::(fX q.2.2.2++s))
    (fun q=>lV (jE ms) M q.1 q.2.1∧q.2.1=jE q.2.2.1∧(∀ t∈q.2.2.1,t∈ms∧t.2.2.length=2)∧ib q.2.2.2=dF (ib q.2.2.1)∧∀ t∈q.2.2.2,t.2.2.length≤2 * q.2.2.1.length) (fun q=>ms.length - q.2.1.length) ([],[],[],[]) sB rfl rfl ⟨lV.nil _ _,rfl,by simp,rfl,by simp⟩ ?_
   rintro ⟨C,q3,vt,js⟩ ⟨Y,J,b0,f3,f4⟩;dsimp only at Y J b0 f3 f4 ⊢;have r9:vt.length≤ms.length:=by have:=Y.len H; rw[J] at this; simpa [jE] using this
   refine rZ<|lW (SO.nextP 0 I I V H Y) ?_;rintro _ _ _ ⟨rfl,b1⟩
   rcases b1 with ⟨rfl,rfl,b2⟩ | ⟨e2,t3,q4,q5,q6,q7,c0,rfl,rfl⟩
   ·have l2:(ib vt).Perm (e8 tl c.sides):=by
     rw[← R];have hn:(ms.map fun t=>t.1).Nodup:=by
      have:=kE tl c.sides;rw[← R] at this;simpa [ib,zi7,Function.comp_def] using this
     have h1:=b2.map Prod.fst;rw[J] at h1;simp only[jE,zi7,Function.comp_def] at h1;exact (wQ (fun t=>t.1) (fun t f=>(b0 t f).1) h1 hn).map _
    have c1:(e8 tl c.sides).any (fun p=>decide ((p.2.length:Int)≠2))=false:=by
     rw[zk7];intro p hp;obtain ⟨t,f,rfl⟩:=zf4.1<|l2.symm.subset hp;have:=(b0 t f).2;simp[this]
    have f5:∀ t∈js,t.2.2.length<1099511627776:=fun t f=>by
     have h1:=f4 t f;omega
    refine yX I (tZ<|sQ<|za1 I<|xI<|tX<|tX<|bX<|tN<|sQ<|SC.drop (.cons _<|.refl _)<|SC.freeze fun g4 q8 l3=>?_);refine SC.freezeMap fun g5 l4 q9=>?_;refine cP List.perm_middle.symm (SC.freezeRows fun g6 f6 b4=>?_);refine rG<|lW (SO.mkMap) ?_;rintro _ _ _ ⟨sm,rfl,rfl,rfl⟩;refine bW (aL zeroValue143) fun m1=>oZ (sK 0 sizeOf143 I I I I I ⟨I,trivial⟩) (zb5 fun g7 b5 c2=>?_);refine tZ (rZ<|bW (aL zeroValue169) fun m2=>?_);refine tZ (rZ<|lU (SU.mkFunc I)<|oZ (sK 0 sizeOf169 I I I I I ⟨I,trivial⟩)<|zb5 fun g8 O c3=>?_);refine tZ<|rZ<|SL.K (qL isAgg169 I<|cK c3 I)<|lW (SO.callV I I<|cz.mk (cap:=[pp m1 0,pp B 0,pp m2 0]) call121<|zj E g8 m1 B m2 sm mj js (q9.mono<|f6.trans<|b5.trans O) (fun t f=>(b4 t f).mono<|b5.trans O) f5 (O _ _ c2) ((l4.trans<|f6.trans<|b5.trans O) _ _ l3) c3 ((ib js).length+1) 0 [] _ 0 (zl1<|zc6 _ _) I) ?_;rintro _ _ _ ⟨rfl,rfl⟩;refine tZ<|sQ<|rZ<|SL.K (qL isAgg143 I<|cK (O _ _ c2) I)<|SL.K (SQ.lenMap underlying143 I<|bh.own 0 I)<|lU (fA ao I aM I)<|SL.K (qL br I<|cO 1 I I)<|lU (eN be I)<|lU (nQ I I)<|tZ ?_;have f7:(iu<|dfs (j4<|ib js) ((ib js).length+1) 0 []).length=(jz<|dF<|e8 tl c.sides).length:=by
     rw[← BL l2,← f3];simp[iu,jz]
    rw[f7];have Z:=W.trans<|q8.trans<|l4.trans<|f6.trans<|b5.trans O;refine iP I (fun G=>?_) (fun G=>?_)
    ·exact rZ<|aT I<|rE<|tR<|dR (s':=s) (.cons _<|.cons _<|.refl _)<|ST.less Z<|za8 (.inl I) results55 I ⟨by unfold bC; rw[zg2 (by rw[i]; exact Bool.false_ne_true),zg2 (by rw[c1]; exact Bool.false_ne_true),zg3 G],I,I⟩
    ·exact kP<|tN<|rZ<|aT I<|rE<|dR (s':=s) (.cons _<|.cons _<|.refl _)<|ST.less Z<|za8 (.inl I) results55 I ⟨by unfold bC; rw[zg2 (by rw[i]; exact Bool.false_ne_true),zg2 (by rw[c1]; exact Bool.false_ne_true),zg2 G],I,I⟩
   ·obtain ⟨⟨tk,tv,a0⟩,f,rfl⟩:=zf4.1 q5;have D:dp g3 tv a0:=e4 _ f;have t4:a0.length≤4096:=S _ f;obtain ⟨tp,tc,rfl⟩:=za4 D;refine yX I<|tZ<|sQ<|za2 I<|kP<|tN<|bK<|rZ<|SL.K (SQ.entryP 0 I I V H q4 q6 q7)<|yX I<|aT I<|sQ<|sW I<|lU (eN az I)<|lU (nQ I I)<|tZ<|iP I (fun a1=>?_) (fun a1=>?_)
    ·refine rZ<|aT I<|rE<|tR<|bR<|tR<|bR<|tR<|dR (s':=s) (.cons _<|.cons _<|.cons _<|.cons _<|List.sublist_append_right _ _)<|ST.less W ?_;have a2:(e8 tl c.sides).any (fun p=>decide ((p.2.length:Int)≠2))=true:=by
      rw[← R,zk1];exact⟨(tk,a0),zf4.2 ⟨_,f,I⟩,by simpa using a1⟩
     exact za8 (.inl I) results55 I ⟨by unfold bC; rw[zg2 (by rw[i]; exact Bool.false_ne_true),zg3 a2],I,I⟩
    ·obtain ⟨a,bb,rfl⟩:∃ a bb,a0=[a,bb]:=by
      match a0,a1 with
      | [],h=>exact absurd (by simp) h
      | [_],h=>exact absurd (by simp) h
      | [a,bb],_=>exact⟨a,bb,rfl⟩
      | _::_::_::q,h=>exact absurd (by simp only[zf1]; omega) h
     have P:=za6 D (by simp);obtain ⟨a3,j0,u0,lu,F,d5,d6,d7,d8,d9⟩:=Gu js a;have c5:=d8 _ f4;have e0:=c5 _ (zg4 F);dsimp only at e0;refine kP (tN (sQ ?_));refine SC.to (fun w hw=>d9 E g3 [iter N mm M A (C++[e2]),pt B (.cells #[.map (some mj)] 168 (0,0)),mp mj (jE js),pt b3 (.cells #[vi ri,vi c.dim,.slice rp c.sides.length d] 56 (0,0))] s w hw) ?_;refine SC.drawT 4 [14] [(0,1),(1,2),(2,2),(3,1),(4,1),(5,2),(6,2),(7,1),(8,1),(9,2),(10,2),(11,1),(12,0),(13,0),(14,0)] ze5 kR<|pK I (qL isAgg168 I (cO 1 I I)) (yM I (pU I (iA az zT3 I I P dC (show (0:Int)<((2:Nat):Int) by decide)) ?_));refine pK I (eB iT3 I (za7 D) (j:=0) I I) (pK I (qL isAgg168 I (cO 1 I I)) (yM I (pU I (iA az zT3 I I P dC (show (0:Int)<((2:Nat):Int) by decide)) ?_)));refine pK I (eB iT3 I (za7 D) (j:=0) I I) (pK I (SQ.eq (SQ.lookup mty168 I I (bh.own 2 I)) d5) (yM I (pU I (iA az zT3 I I P dC (show (1:Int)<((2:Nat):Int) by decide)) ?_)));refine pK rfl (eB iT3 rfl (za7 D) (j:=1) rfl rfl) (SP.o rfl (bS sty52 rfl rfl rfl (ab sB) dC) dC (.inr (by rintro _ _ _ ⟨r0,rfl,rfl,rfl⟩; exact⟨by exact zb9 _,(by exact .cons _ (List.take_sublist _ _))⟩)) ?_);rintro _ _ _ ⟨r0,rfl,rfl,rfl⟩;refine SP.o I (SO.app1 (j0+4) ((lu++[bb]).flatMap encInt.enc) (lu++[bb]).length sty52 I I I (sw F s) I ⟨I,trivial⟩ (by simp[encInt]; rfl) (by simp) lN lN) dC (.inr (by rintro u1 _ _ ⟨rfl,rfl⟩; exact⟨by exact zb9 _,(by exact j6 _ _ _ _)⟩)) ?_;rintro u1 _ _ ⟨rfl,rfl⟩;refine SP.on I (SO.mapUpdate 2 mty168 I I I I) (.inl dC) ?_;rintro _ _ _ ⟨rfl,rfl⟩;refine pN (tN (SC.drop (s':=[iter N mm M A (C++[e2]),pt B (.cells #[.map (some mj)] 168 (0,0)),mp mj (jE (a3.set j0 (a,u1,lu++[bb]))),pt b3 (.cells #[vi ri,vi c.dim,.slice rp c.sides.length d] 56 (0,0))]++(fX (a3.set j0 (a,u1,lu++[bb]))++s)) (by rw[← d6 u1 bb,← su (v':=u1) (l':=lu++[bb]) F s]; exact .refl _) ?_));have m3:∀ t∈(a3.set j0 (a,u1,lu++[bb])),t.2.2.length≤2 * vt.length+1:=fun t f=>(by rcases List.mem_or_eq_of_mem_set f with h | h; (have:=c5 t h; omega); (subst h; simp; omega));obtain ⟨f8,j1,u2,lw,X,m4,r1,r2,r3,r4⟩:=Gu (a3.set j0 (a,u1,lu++[bb])) bb;have c6:=r3 _ m3;have r5:=c6 _ (zg4 X);dsimp only at r5;refine SC.to (fun w hw=>r4 E g3 [iter N mm M A (C++[e2]),pt B (.cells #[.map (some mj)] 168 (0,0)),mp mj (jE (a3.set j0 (a,u1,lu++[bb]))),pt b3 (.cells #[vi ri,vi c.dim,.slice rp c.sides.length d] 56 (0,0))] s w hw) ?_;refine SC.drawT 4 [14] [(0,1),(1,2),(2,2),(3,1),(4,1),(5,2),(6,2),(7,1),(8,1),(9,2),(10,2),(11,1),(12,0),(13,0),(14,0)] ze5 kR ?_;refine pK I (qL isAgg168 I (cO 1 I I)) (yM I (pU I (iA az zT3 I I P dC (show (1:Int)<((2:Nat):Int) by decide)) ?_));refine pK I (eB iT3 I (za7 D) (j:=1) I I) (pK I (qL isAgg168 I (cO 1 I I)) (yM I (pU I (iA az zT3 I I P dC (show (1:Int)<((2:Nat):Int) by decide)) ?_)));refine pK I (eB iT3 I (za7 D) (j:=1) I I) (pK I (SQ.eq (SQ.lookup mty168 I I (bh.own 2 I)) m4) (yM I (pU I (iA az zT3 I I P dC (show (0:Int)<((2:Nat):Int) by decide)) ?_)));refine pK rfl (eB iT3 rfl (za7 D) (j:=0) rfl rfl) (SP.o rfl (bS sty52 rfl rfl rfl (ab sB) dC) dC (.inr (by rintro _ _ _ ⟨n0,rfl,rfl,rfl⟩; exact⟨by exact zb9 _,(by exact .cons _ (List.take_sublist _ _))⟩)) ?_);rintro _ _ _ ⟨n0,rfl,rfl,rfl⟩;refine SP.o I (SO.app1 (j1+4) ((lw++[a]).flatMap encInt.enc) (lw++[a]).length sty52 I I I (sw X s) I ⟨I,trivial⟩ (by simp[encInt]; rfl) (by simp) lN lN) dC (.inr (by rintro u3 _ _ ⟨rfl,rfl⟩; exact⟨by exact zb9 _,(by exact j6 _ _ _ _)⟩)) ?_;rintro u3 _ _ ⟨rfl,rfl⟩;refine SP.on I (SO.mapUpdate 2 mty168 I I I I) (.inl dC) ?_;rintro _ _ _ ⟨rfl,rfl⟩;refine pN (bN (dR (s':=[iter N mm M A (C++[e2]),pt B (.cells #[.map (some mj)] 168 (0,0)),mp mj (jE (f8.set j1 (bb,u3,lw++[a]))),pt b3 (.cells #[vi ri,vi c.dim,.slice rp c.sides.length d] 56 (0,0))]++(fX (f8.set j1 (bb,u3,lw++[a]))++s)) (by rw[← r1 u3 a,← su (v':=u3) (l':=lw++[a]) X s]; exact .refl _) ?_));exact ST.again (C++[e2],q3++[(tk,.slice tp 2 tc)],vt++[(tk,.slice tp 2 tc,[a,bb])],f8.set j1 (bb,u3,lw++[a])) sB I I ⟨c0,by rw[J]; simp[jE],fun t f9=>by
       rcases zf5.1 f9 with h | h
       ·exact b0 t h
       ·simp at h; subst h; exact⟨f,I⟩,by rw[r2,d7,f3]; simp[dF,ib,ly],fun t f9=>by
       simp only[ze7,ze9]
       rcases List.mem_or_eq_of_mem_set f9 with h | h
       ·have:=c6 t h; omega
       ·subst h; simp; omega⟩ (by
       have:=c0.len H;simp only[jE,ze8,ze7,ze9] at this ⊢;omega)
  ·obtain ⟨zp,r6,rfl⟩:=zf4.1 X;refine yX I<|tZ<|sQ<|za2 I<|kP<|tN<|bK<|rZ<|SL.K (SQ.entryP 0 I I T U he q1 q2)<|yX I<|aT I<|sW I<|lU (nQ I I)<|tZ<|iP I (fun G=>?_) (fun G=>?_)
   ·refine rZ<|aT I<|rE<|bR<|tR<|bR<|tR<|dR (s':=s) (.cons _<|.cons _<|.refl _)<|ST.less W ?_;have a2:(fy tl c.sides).any (fun p=>decide (p.2≠0))=true:=by
     rw[← hz,zk1];exact⟨zp,r6,by simpa using G⟩
    exact za8 (.inl I) results55 I ⟨by unfold bC; rw[zg3 a2],I,I⟩
   ·refine kP (bN ?_);exact ST.again (vis++[e],vl++[(zp.1,vi zp.2)]) sB I I ⟨b9,fun p hp=>by
     rcases zf5.1 hp with h | h
     ·exact e9 p h
     ·simp at h; subst h;have:zp.2=0:=by simpa using G
      simp[this]⟩ (by
     have:=b9.len U;simp only[fZ,ze8,ze7,ze9] at this ⊢;omega)
def iz (tl:List Cl):List Cl→Int→Option (Int×Int)
 | [],_=>none
 | x::r,last=>if x.id≤last then some (x.id,20) else if cQ tl x≠0 then some (x.id,cQ tl x) else iz tl r x.id
def n4 (tl:List Cl):List Cl→Option (Int×Int)
 | []=>none
 | x::r=>if x.dim>1∧bC tl x≠0 then some (x.id,bC tl x) else n4 tl r
def ap (l:List Cl):Int×Int:=if (l.length:Int)>4000 then (0,2) else (iz (am l) (aa l) 0).getD ((n4 (am l)<|aa l).getD (0,0))
theorem i8 {tl:List Cl}{c:Cl}(h:cQ tl c=0):c.sides.length≤64∧∀ x∈c.sides,x.sign=1∨x.sign = -1:=by
 unfold cQ at h;split at h
 ·simp at h
 ·rename_i b;split at h
  ·simp at h
  ·rename_i a;split at h
   ·simp at h
   ·split at h
    ·simp at h
    ·rename_i d;refine⟨?_,fun x i=>?_⟩
     ·simp[fQ] at b;simp[aO] at a
      rcases Int.lt_trichotomy c.dim 1 with h | h | h
      ·have:c.dim=0:=oM;have:=a.1.1 this;simp[this]
      ·have:=a.1.2 h;omega
      ·have:=a.2 h;omega
     ·have e:c.sides.any bV=false:=by simpa using d
      rw[zk7] at e;have f:=e x i;simp only[bV,zj5,zj7,ne_eq,not_and,Decidable.not_not] at f;by_cases g:x.sign=1
      ·exact .inl g
      ·exact .inr<|f g
theorem mi {tl:List Cl}:∀ {l:List Cl} {last:Int},iz tl l last=none→∀ x∈l,cQ tl x=0
 | [],_,_,x,a=>by simp at a
 | y::r,last,h,x,a=>by
  unfold iz at h;split at h
  ·simp at h
  ·split at h
   ·simp at h
   ·rename_i b
    rcases zf3.1 a with rfl | a
    ·exact zh2 b
    ·exact mi h x a
theorem AN {l:List Cl}(h:∀ x∈aa l,cQ (am l) x=0){c:Cl}(a:c∈aa l):AOk (am l) c:=by
 obtain ⟨b,d⟩:=i8<|h c a;refine⟨b,d,fun x f=>?_⟩;unfold ay;cases e:ah (am l) x.cell with
 | none=>simp[aH]
 | some y=>exact i8<|h y<|si (aG e).1
theorem m7 (E:World)(g:PH)(s:Own)(v:Value)(l:List Cl)(R:ai g v l)(Q:aJ l) :
  Ctr Tryz.prog E 14 #[.agg #[v]] g s (fun r g' s'=>r = .tuple #[vi (ap l).1,vi (ap l).2]∧g=g'∧s=s'):=by
 have L:=aA Q;have a0:=Q.1;obtain ⟨p,cp,S⟩:=R.form;subst S;refine zb2 (args:=[.agg #[.slice p l.length cp]]) func14 I ntmps14 (bE I)<|rZ (bW (bO I) fun b1=>?_);refine lA I<|aT I<|sQ<|rZ<|lU (fA dn I cq I)<|SL.K (qL eh I<|cO 0 I I)<|lU (eN aB I)<|lU (gR I I)<|tZ<|iP I (fun n=>?_) (fun n=>?_)
 ·exact rZ<|lA I<|aT I<|rE<|tR<|dR (s':=s) uR<|ST.ret2 (.inl I) results14 I I ⟨by unfold ap; rw[zg3 n],I,I⟩
 ·refine kP<|tN<|rZ<|SL.K (qV 0 aj ae I I I)<|lW (SO.call call52 I<|od E g _ _ l R Q) ?_;rintro tv g1 _ ⟨rfl,z,ht⟩;refine aT I<|rZ<|SL.K (qV 0 aj ae I I I)<|lW (SO.call call53 I<|eY E g1 _ _ l (R.mono z) Q) ?_;rintro _ g2 _ ⟨rfl,A,u,rfl,rs,o,t⟩;obtain ⟨q,d,rfl⟩:=o.form;refine lU (SU.field dn I eh I I)<|lA I<|aT I<|sQ<|sW I<|lU (eN aB I)<|lM I<|tZ<|bK ?_;have f:ap l=(iz (am l) (aa l) 0).getD ((n4 (am l)<|aa l).getD (0,0)):=by unfold ap; rw[zg2 n]
  have M:=ht.mono A;have Y:=t.length;have a1:=L.1;have j:=z.trans A;refine oP (ι:=Nat×Int) (fun i=>[(4,tv),(5,vi i.2),(6,.slice q rs.length d),(22,.slice q rs.length d),(23,vi rs.length),(24,vi i.1)]) (fun _=>g2)
   (fun _=>pt b1 (.cells #[.slice p l.length cp] 29 (0,0))::s) (fun i=>i.1≤rs.length∧iz (am l) (aa l) 0=iz (am l) ((aa l).drop i.1) i.2) (fun i=>rs.length - i.1) (0,0)
   sB rfl rfl ⟨zf8 _,by simp⟩ ?_
  rintro ⟨k,last⟩ ⟨Z,b⟩;dsimp only at Z b ⊢;refine rZ<|yL I<|tZ<|sQ<|iP I (fun T=>?_) (fun T=>?_)
  ·have w:k<rs.length:=oM;have c:k<(aa l).length:=oM;have B:=o.based oM;have m:=t.get (List.getElem?_eq_getElem c)<|List.getElem?_eq_getElem w;have C:rs[((k:Nat):Int).toNat]?=some rs[k]:=List.getElem?_eq_getElem w;have e:(aa l).drop k=(aa l)[k]::(aa l).drop (k+1):=zg8 c;have U:=L.2 _<|gM c;generalize rs[k]=x at *;generalize (aa l)[k]=cx at *;rw[e] at b;obtain ⟨xi,xd,xv⟩:=x;have D:xi=cx.id:=m.1;subst D;refine kP (tN<|sQ<|bK<|rZ<|lU (iA aB aw I I B oM sL)<|SL.K (SQ.elemA dT aw I o.rd C)<|bW (aL zl7) fun b8=>?_);refine oZ (sK 0 aw I I I I I sB)<|tZ<|sQ<|rZ<|lU (fA ao I zT3 I)<|SL.K (qL iT3 I<|cO 0 I I)<|lM I<|lU (SU.leq I I)<|tZ<|iP I (fun y=>?_) (fun y=>?_)
   ·refine rZ<|lU (fA ao I zT3 I)<|SL.K (qL iT3 I<|cO 0 I I)<|lA I<|aT I<|rE<|tR<|bR<|tR<|tR<|bR<|tR<|dR (s':=s) (.cons _<|.cons _<|.refl _)<|ST.less j ?_;have F:ap l=(cx.id,20):=by rw[f,b]; unfold iz; rw[zg3 y]; rfl
    exact ST.ret2 (.inl I) results14 I I ⟨by (rw[F]; rfl),rfl,rfl⟩
   ·refine kP<|tN<|rZ<|lU (fA ao I zT3 I)<|SL.K (qL iT3 I<|cO 0 I I)<|aT I<|sW I<|SL.K (qV 0 dT aw I I I)<|lW (SO.call call54 I<|Cq E g2 _ tv (am l) cx _ M m U) ?_;rintro _ _ _ ⟨rfl,rfl,rfl⟩;refine aT I<|sW I<|lU (nQ I I)<|tZ<|iP I (fun G=>?_) (fun G=>?_)
    ·refine rZ<|lU (fA ao I zT3 I)<|SL.K (qL iT3 I<|cO 0 I I)<|lM I<|lA I<|aT I<|rE<|bR<|tR<|tR<|bR<|tR<|dR (s':=s) (.cons _<|.cons _<|.refl _)<|ST.less j ?_;have F:ap l=(cx.id,cQ (am l) cx):=by rw[f,b]; unfold iz; rw[zg2 y,zg3 G]; rfl
     exact ST.ret2 (.inl I) results14 I I ⟨by (rw[F]; rfl),rfl,rfl⟩
    ·exact kP<|bN<|tN<|rG<|yD I<|lM I<|SL.nil<|dR (s':=pt b1 (.cells #[.slice p l.length cp] 29 (0,0))::s) (.cons _<|.refl _)<|ST.again (k+1,cx.id) sB I I ⟨lN,by rw[b]; rw[iz,zg2 y,zg2 G]⟩ lN
  ·have V:(aa l).drop k=[]:=List.drop_of_length_le oM;rw[V] at b;have H:=mi b;refine xI<|tX<|tX<|bX<|tN<|sQ<|sW I<|lU (eN aB I)<|lM I<|tZ<|bK<|oP (ι:=Nat) (fun i=>[(4,tv),(45,.slice q rs.length d),(46,vi rs.length),(47,vi i)]) (fun _=>g2)
    (fun _=>pt b1 (.cells #[.slice p l.length cp] 29 (0,0))::s) (fun i=>i≤rs.length∧n4 (am l) (aa l)=n4 (am l) ((aa l).drop i)) (fun i=>rs.length - i) 0
    sB rfl rfl ⟨zf8 _,by simp⟩ ?_
   rintro k ⟨Z,a⟩;try dsimp only
   refine rZ<|yL I<|tZ<|sQ<|iP I (fun N=>?_) (fun N=>?_)
   ·have w:k<rs.length:=oM;have c:k<(aa l).length:=oM;have B:=o.based oM;have m:=t.get (List.getElem?_eq_getElem c)<|List.getElem?_eq_getElem w;have C:rs[((k:Nat):Int).toNat]?=some rs[k]:=List.getElem?_eq_getElem w;have e:(aa l).drop k=(aa l)[k]::(aa l).drop (k+1):=zg8 c;have W:=gM c;have O:=AN H W;generalize rs[k]=x at *;generalize (aa l)[k]=cx at *;rw[e] at a;obtain ⟨xi,xd,xv⟩:=x;have D:xi=cx.id:=m.1;have X:xd=cx.dim:=m.2.1;subst D X;refine kP (tN<|sQ<|bK<|rZ<|lU (iA aB aw I I B oM sL)<|SL.K (SQ.elemA dT aw I o.rd C)<|bW (aL zl7) fun a2=>?_);refine oZ (sK 0 aw I I I I I sB)<|tZ<|rZ<|lU (fA ao I zT3 I)<|SL.K (qL iT3 I<|cO 0 I I)<|lU (gR I I)<|tZ<|iP I (fun J=>?_) (fun J=>?_)
    ·refine sW I<|SL.K (qV 0 dT aw I I I)<|lW (SO.call call55 I<|xu E g2 _ tv (am l) cx _ M m O) ?_;rintro _ _ _ ⟨rfl,rfl,rfl⟩;refine aT I<|sW I<|lU (nQ I I)<|tZ<|iP I (fun G=>?_) (fun G=>?_)
     ·refine rZ<|lU (fA ao I zT3 I)<|SL.K (qL iT3 I<|cO 0 I I)<|lM I<|lA I<|aT I<|rE<|bR<|tR<|tR<|bR<|tR<|dR (s':=s) (.cons _<|.cons _<|.refl _)<|ST.less j ?_;have F:ap l=(cx.id,bC (am l) cx):=by rw[f,b,a]; unfold n4; rw[zg3 ⟨J,G⟩]; rfl
      exact ST.ret2 (.inl I) results14 I I ⟨by (rw[F]; rfl),rfl,rfl⟩
     ·exact kP<|bN<|tN<|rG<|yD I<|lM I<|SL.nil<|dR (s':=pt b1 (.cells #[.slice p l.length cp] 29 (0,0))::s) (.cons _<|.refl _)<|ST.again (k+1) sB I I ⟨oM,by rw[a]; rw[n4,zg2 (fun h=>G h.2)]⟩ oM
    ·exact kP<|bN<|tN<|rG<|yD I<|lM I<|SL.nil<|dR (s':=pt b1 (.cells #[.slice p l.length cp] 29 (0,0))::s) (.cons _<|.refl _)<|ST.again (k+1) sB I I ⟨oM,by rw[a]; rw[n4,zg2 (fun h=>J h.1)]⟩ oM
   ·have P:(aa l).drop k=[]:=List.drop_of_length_le oM;rw[P] at a;refine xI<|tX<|tX<|bX<|tN<|rZ<|lA I<|aT I<|rE<|dR (s':=s) (.cons _<|.refl _)<|ST.less j ?_;have F:ap l=(0,0):=by rw[f,b,a]; rfl
    exact ST.ret2 (.inl I) results14 I I ⟨by (rw[F]; done),I,I⟩
def lbI (l:List Int)(x:Int):Nat:=(l.filter fun y=>decide (y<x)).length
theorem GE {l:List Int}{x:Int}{i:Nat}(f:i≤l.length)(c:∀ k (h:k<l.length),k<i→l[k]<x)(d:∀ k (h:k<l.length),i≤k→x≤l[k]):lbI l x=i:=by
 unfold lbI;have e:l=l.take i++l.drop i:=(zj4 i l).symm;rw[e,zh8];have f1:(l.take i).filter (fun y=>decide (y<x))=l.take i:=by
  rw[List.filter_eq_self];intro y a;obtain ⟨k,b,rfl⟩:=zc8 a;simp at b;simpa using c k oM oM
 have f2:(l.drop i).filter (fun y=>decide (y<x))=[]:=by
  rw[List.filter_eq_nil_iff];intro y a;obtain ⟨k,b,rfl⟩:=zc8 a;simp at b;have:=d (i+k) oM oM;simp only[List.getElem_drop];simp;omega
 rw[f1,f2];simp;omega
theorem DR {l:List Int}{x:Int}{i:Nat}(d:l.Pairwise (· ≤ ·))(f:∀ k (h:k<l.length),k<i→l[k]<x)(g:∀ k (h:k<l.length),i≤k→x≤l[k])(a:i<l.length):decide (l[i]=x)=l.contains x:=by
 rw[Bool.eq_iff_iff];simp;constructor
 ·intro e; rw[← e]; exact gM a
 ·intro hm;obtain ⟨k,c,e⟩:=zc8 hm;have b:i≤k:=by
   rcases Nat.lt_or_ge k i with h | h
   ·have:=f k c h; omega
   ·exact h
  have j:=g i a<|Nat.le_refl _
  rcases Nat.eq_or_lt_of_le b with rfl | h
  ·exact e
  ·have:=zd1.1 d i k a c h;omega
theorem Dx {l:List Int}{x:Int}{i:Nat}(a:∀ k (h:k<l.length),k<i→l[k]<x)(c:¬ i<l.length):l.contains x=false:=by
 rw[Bool.eq_false_iff];intro hm;simp at hm;obtain ⟨k,b,e⟩:=zc8 hm;have:=a k b oM;omega
def dz (n:Int):Int:=1 - 2 * (n % 2)
theorem vY (n:Int):IntKind.i64.wrap ((BitVec.ofInt IntKind.i64.bits n &&& BitVec.ofInt IntKind.i64.bits 1).toNat:Int)=n % 2:=by
 have a:(BitVec.ofInt 64 n &&& BitVec.ofInt 64 1).toNat=(n % 2).toNat:=by
  rw[BitVec.toNat_and,show (BitVec.ofInt 64 1).toNat=1 from rfl,Nat.and_one_is_mod,BitVec.toNat_ofInt];omega
 show IntKind.i64.wrap ((BitVec.ofInt 64 n &&& BitVec.ofInt 64 1).toNat:Int)=n % 2;rw[a,zl2 _ oM];omega
theorem BJ (E:World)(g:PH)(s:Own)(n:Int):Ctr Tryz.prog E 141 #[vi n] g s (fun r g' s'=>r=vi (dz n)∧g=g'∧s=s'):=by
 exact zb2 (args:=[vi n]) func141 I ntmps141 (bE I)<|rZ<|aT I<|sW I<|lU (SU.eq (SU.and I I)<|ze4 vi<|vY n)<|lU (SU.mul I I oM)<|lU (sU I I oM)<|aT I<|rE<|za8 (.inl I) results141 I ⟨I,I,I⟩
theorem Cr (l:List Cl):∀ acc:List Cl,∃ r,l.foldl gt acc=acc++r∧r.Sublist l:=by
 induction l with
 | nil=>intro acc; exact⟨[],by simp,.refl _⟩
 | cons c t ih =>
  intro acc;simp only[zj1];obtain ⟨r,a,d⟩:=ih<|gt acc c;unfold gt at a;unfold gt;split at a
  ·rename_i b;rw[zg3 b];exact⟨r,a,d.cons _⟩
  ·rename_i b;rw[zg2 b];exact⟨c::r,by rw[a]; simp,d.cons_cons _⟩
theorem xH (l:List Cl):(am l).Sublist (aa l):=by
 obtain ⟨r,a,b⟩:=Cr (aa l) [];unfold am;rw[a];simpa using b
theorem rO (l:List Cl):(aa l).map Cl.id=(sortBy Cl.id l).map Cl.id:=by
 unfold aa;rw[zi7];rfl
theorem jw (l:List Cl):((aa l).map Cl.id).Pairwise (· ≤ ·):=by
 rw[rO,zk6];exact di l
theorem fF (l:List Cl):((am l).map Cl.id).Pairwise (· ≤ ·):=(jw l).sublist ((xH l).map _)
def aX (tl ul:List Cl)(x y:Int):Int:=lbI (tl.map Cl.id) x * ul.length+lbI (ul.map Cl.id) y+1
theorem Ep (l:List Int)(x:Int):lbI l x≤l.length:=zc6 _ _
theorem wU {a b:Nat}(c:a≤4000)(hb:b≤4000):(a:Int) * (b:Int)≤16000000∧0≤(a:Int) * (b:Int):=by
 have:a * b≤4000 * 4000:=Nat.mul_le_mul c hb;have e:(a:Int) * (b:Int)=((a * b:Nat):Int):=by simp
 omega
theorem Tab.ptr {g:PH}{v:Value}{tl:List Cl}(h:Tab g v tl):∃ b,v=pp b 0:=by
 obtain ⟨b,_,_,_,a,_⟩:=h;exact⟨b,a⟩
theorem CB {l:List Cl}(h:(ap l).2=0):l.length≤4000:=by
 unfold ap at h;split at h
 ·simp at h
 ·omega
theorem Tryz.buildE29 (w:World):(Instr.build 29 #[]).run Tryz.prog w = .ok (.agg #[.slice none 0 0]) w:=by
 simp[Instr.build,Instr.fill];rfl
theorem Tryz.buildC56 (x y:Int)(w:World):(Instr.build 56 #[(0,vi x),(1,vi y)]).run Tryz.prog w = .ok (.agg #[vi x,vi y,.slice none 0 0]) w:=by
 have hz:(Value.agg #[vi 0,vi 0,Value.slice none 0 0]).cells = #[vi 0,vi 0,.slice none 0 0]:=rfl;have a:∀ z:Int,(vi z).cells = #[vi z]:=fun _=>rfl;simp[Instr.build,Instr.fill,hz,a]
theorem Tryz.buildS75 (x y:Int)(w:World):(Instr.build 75 #[(0,vi x),(1,vi y)]).run Tryz.prog w = .ok (.agg #[vi x,vi y]) w:=by
 have hz:(Value.agg #[vi 0,vi 0]).cells = #[vi 0,vi 0]:=rfl;have a:∀ z:Int,(vi z).cells = #[vi z]:=fun _=>rfl;simp[Instr.build,Instr.fill,hz,a]
theorem jo {α β γ:Type}(l:List α)(m:List β)(f:α→β→γ):(l.flatMap fun x=>m.map<|f x).length=l.length * m.length:=by
 induction l with
 | nil=>simp
 | cons x t ih=>rw[zh7,ze7,ih,ze8,zf1,Nat.succ_mul]; omega
theorem wD (n:Int):dz n=1∨dz n = -1:=by unfold dz; omega
def oc (a b:List Cl):Bool:=!decide ((ap a).2=0) || !decide ((ap b).2=0)||decide ((a.length:Int) * b.length>4000)
theorem zJ {a b:List Cl}(h:oc a b=false):(ap a).2=0∧(ap b).2=0∧(a.length:Int) * b.length≤4000:=by
 simp only[oc,Bool.or_eq_false_iff,Bool.not_eq_false',zj7,decide_eq_false_iff_not] at h;exact⟨h.1.1,h.1.2,oM⟩
theorem vX {tl:List Cl}:∀ {l:List Cl} {last:Int} {p:Int×Int},iz tl l last=some p→p.2≠0
 | [],_,_,h=>by simp[iz] at h
 | y::r,last,p,h=>by
  unfold iz at h;split at h
  ·injection h with h; subst h; show (20:Int)≠0; decide
  ·split at h
   ·rename_i a; injection h with h; subst h; exact a
   ·exact vX h
theorem yo {tl:List Cl}{c:Cl}(h:cQ tl c=0):0≤c.dim∧c.dim≤8:=by
 unfold cQ at h;split at h
 ·simp at h
 ·rename_i a;simp[fQ] at a;omega
theorem au (l:List Cl):(aa l).length=l.length:=by simp[aa,ez]
theorem jk (l:List Cl):(am l).length≤l.length:=by
 rw[← au l];exact (xH l).length_le
def dV (tl ul:List Cl)(x y:Cl):Cl:=⟨aX tl ul x.id y.id,x.dim+y.dim,x.sides.map (fun q=>⟨aX tl ul q.cell y.id,q.sign⟩)++y.sides.map (fun q=>⟨aX tl ul x.id q.cell,dz x.dim * q.sign⟩)⟩
def dP (a b:List Cl):List Cl:=(aa a).flatMap fun x=>(aa b).map (dV (am a) (am b) x)
def EJ (a b:List Cl):List Cl:=if oc a b then [] else if (ap<|dP a b).2=0 then aa (dP a b) else []
theorem Gk (E:World)(g:PH)(s:Own)(v:Value)(l:List Int)(a:dp g v l)(hn:l.length<17592186044416) :
  Ctr Tryz.prog E 131 #[v] g s (fun r g' s'=>g=g'∧s'=rowA encInt 3 r l::s):=by
 obtain ⟨p,c,rfl⟩:=za4 a;refine zb2 (args:=[.slice p l.length c]) func131 I ntmps131 (bE I)<|rZ<|aT I<|sQ<|sW I<|lU (SU.eqlNil az I I)<|tZ<|iQ I (fun b=>?_) (fun b=>?_)
 ·refine rZ<|aT I<|rE<|tR ?_;have hl:l=[]:=by
   cases l with
   | nil=>rfl
   | cons x r =>
    have hb:=za6 a (by simp);cases p with
    | none=>simp[based] at hb
    | some q=>simp at b
  subst hl;exact ST.nilRow 3 1<|za8 (.inl I) results131 I ⟨I,I⟩
 ·refine kP<|tN<|rZ<|lW (bS sty52 I I I (ab trivial) dC) ?_;rintro _ _ _ ⟨b5,rfl,rfl,rfl⟩;refine SL.emptyRow 3 1 (some ⟨b5,0,none⟩)<|lM I<|lW (SO.appendE (m:=l.length) 0 l.length (l.flatMap encInt.enc) sty52 I I I I I (Sl.rd a) (encInt.length l) (encInt.ones l) oM (by simp) oM oM) ?_;rintro r7 _ _ ⟨rfl,rfl⟩;exact aT I<|rE<|dR (s':=rowA encInt 3 r7 l::s) (.cons_cons _<|.cons _<|.refl _)<|za8 (.inl I) results131 I ⟨I,I⟩
def orI:List Int→Int
 | []=>0
 | a::r=>if a≠0 then a else orI r
def ic:List Int→List Int→Int
 | [],[]=>0
 | [],_::_=>-1
 | _::_,[]=>1
 | a::r,b::t=>if ie a b≠0 then ie a b else ic r t
def ar (a b:List Int):Int:=if ie a.length b.length≠0 then ie a.length b.length else ic a b
theorem A5 (E:World)(g:PH)(s:Own)(v:Value)(l:List Int)(j:Rd g s v (l.flatMap encInt.enc))(m:∃ p c,v = .slice p l.length c)(hb:0<l.length→based v=true)(hl:l.length<1099511627776) :
  Ctr Tryz.prog E 157 #[v] g s (fun r g' s'=>r=vi (orI l)∧g=g'∧s=s'):=by
 obtain ⟨p,c,rfl⟩:=m;refine zb2 (args:=[.slice p l.length c]) func157 I ntmps157 (bE I)<|rZ<|aT I<|rZ<|aT I<|sQ<|sW I<|lU (eN az I)<|lM I<|tZ<|bK<|oP (ι:=Nat) (fun k=>[(3,vi 0),(6,.slice p l.length c),(7,vi l.length),(8,vi k)]) (fun _=>g) (fun _=>s) (fun k=>k≤l.length∧orI l=orI (l.drop k)) (fun k=>l.length - k) 0
  sB rfl rfl ⟨zf8 _,by simp⟩ ?_
 rintro k ⟨n,a⟩;refine rZ<|yL I<|tZ<|sQ<|iP I (fun e=>?_) (fun e=>?_)
 ·have d:k<l.length:=oM;have f:=hb oM;have h:l[((k:Nat):Int).toNat]?=some l[k]:=List.getElem?_eq_getElem d;have b:l.drop k=l[k]::l.drop (k+1):=zg8 d;generalize l[k]=x at *;rw[b] at a;refine kP<|tN<|sQ<|bK<|rZ<|lU (iA az zT3 I I f oM sL)<|SL.K (eB iT3 I j h I)<|aT I<|sW I<|lM I<|lU (nQ I I)<|tZ<|iP I (fun hd=>?_) (fun hd=>?_)
  ·exact sW I<|aT I<|rE<|bR<|tR<|tR<|bR<|tR<|za8 (.inl I) results157 I ⟨by rw[a,orI,zg3 hd],I,I⟩
  ·exact kP<|bN<|tN<|rG<|yD I<|lM I<|SL.nil<|ST.again (k+1) sB I I ⟨oM,by rw[a,orI,zg2 hd]⟩ oM
 ·refine xI<|tX<|tX<|bX<|tN<|sW I<|aT I<|rE ?_;have i:l.drop k=[]:=List.drop_of_length_le oM;rw[i] at a;exact za8 (.inl I) results157 I ⟨by rw[a]; rfl,rfl,rfl⟩
theorem Cx (E:World)(g:PH)(s:Own)(v u:Value)(l m:List Int)(j:dp g v l)(n:dp g u m)(hl:l.length<1099511627776) :
  Ctr Tryz.prog E 138 #[v,u] g s (fun r g' s'=>r=vb (decide (l=m))∧g=g'∧s=s'):=by
 obtain ⟨p,c,rfl⟩:=za4 j;obtain ⟨q,d,rfl⟩:=za4 n;refine zb2 (args:=[.slice p l.length c,.slice q m.length d]) func138 I ntmps138 (bE I)<|rZ<|aT I<|sQ<|sW I<|lU (eN az I)<|lM I<|lU (eN az I)<|lU (nQ I I)<|tZ<|iP I (fun a=>?_) (fun a=>?_)
 ·exact rZ<|aT I<|rE<|tR<|za8 (.inl I) results138 I ⟨by have:l≠m:=fun e=>a (by rw[e]); simp[this],I,I⟩
 ·refine kP<|tN<|sQ<|sW I<|lU (eN az I)<|lM I<|tZ<|bK ?_;have b:l.length=m.length:=oM;refine oP (ι:=Nat) (fun k=>[(0,.slice p l.length c),(1,.slice q m.length d),(12,vi l.length),(13,vi k)]) (fun _=>g) (fun _=>s) (fun k=>k≤l.length∧l.take k=m.take k) (fun k=>l.length - k) 0
   sB rfl rfl ⟨zf8 _,by simp⟩ ?_
  rintro k ⟨y,f⟩;refine rZ<|yL I<|tZ<|sQ<|iP I (fun o=>?_) (fun o=>?_)
  ·have h:k<l.length:=oM;have i:k<m.length:=oM;have t:=za6 j oM;have w:=za6 n oM;refine kP<|tN<|sQ<|bK<|sW I<|aT I<|sQ<|dW [] [(0,2),(1,2),(2,2),(3,1),(4,2),(5,2),(6,2),(7,1),(8,2)] ze5 kR<|yM I<|yM I<|pU I (iA az zT3 I I t oM sL)<|pQ I (eB iT3 I (za7 j) (List.getElem?_eq_getElem h) I) dC ?_;refine yM I<|yM I<|pU I (iA az zT3 I I w oM sL)<|pQ I (eB iT3 I (za7 n) (List.getElem?_eq_getElem i) I) dC ?_;refine pU I (nQ I I)<|pN<|tN<|iP I (fun hd=>?_) (fun hd=>?_)
   ·exact rZ<|aT I<|rE<|bR<|tR<|tR<|bR<|tR<|za8 (.inl I) results138 I ⟨by have:l≠m:=fun e=>hd (by simp[e]); simp[this],I,I⟩
   ·exact kP<|bN<|tN<|rG<|yD I<|lM I<|SL.nil<|ST.again (k+1) sB I I ⟨oM,iw h i f<|zh2 hd⟩ oM
  ·refine xI<|tX<|tX<|bX<|tN<|rZ<|aT I<|rE ?_;have x:k=l.length:=oM;subst x;have:l=m:=jj b f;exact za8 (.inl I) results138 I ⟨by simp[this],I,I⟩
theorem xj (E:World)(g:PH)(s:Own)(v u:Value)(l m:List Int)(j:dp g v l)(n:dp g u m)(hl:l.length<1099511627776) :
  Ctr Tryz.prog E 190 #[v,u] g s (fun r g' s'=>r=vi (ic l m)∧g=g'∧s=s'):=by
 obtain ⟨p,c,rfl⟩:=za4 j;obtain ⟨q,d,rfl⟩:=za4 n;refine zb2 (args:=[.slice p l.length c,.slice q m.length d]) func190 I ntmps190 (bE I)<|rZ<|aT I<|sQ<|sW I<|lU (eN az I)<|lM I<|tZ<|bK<|oP (ι:=Nat) (fun k=>[(0,.slice p l.length c),(1,.slice q m.length d),(9,.slice p l.length c),(10,vi l.length),(11,vi k)]) (fun _=>g) (fun _=>s) (fun k=>k≤l.length∧k≤m.length∧ic l m=ic (l.drop k) (m.drop k)) (fun k=>l.length - k) 0
  sB rfl rfl ⟨zf8 _,zf8 _,by simp⟩ ?_
 rintro k ⟨G,F,a⟩;refine rZ<|yL I<|tZ<|sQ<|iP I (fun o=>?_) (fun o=>?_)
 ·have i:k<l.length:=oM;have t:=za6 j oM;have w:l[((k:Nat):Int).toNat]?=some l[k]:=List.getElem?_eq_getElem i;have f:l.drop k=l[k]::l.drop (k+1):=zg8 i;generalize l[k]=x at *;rw[f] at a;refine kP<|tN<|sQ<|bK<|sW I<|lU (iA az zT3 I I t oM sL)<|SL.K (eB iT3 I (za7 j) w I)<|lA I<|aT I<|sQ<|sW I<|lM I<|lU (eN az I)<|lU (gQ I I)<|tZ<|iP I (fun z=>?_) (fun z=>?_)
  ·refine rZ<|aT I<|rE<|tR<|bR<|tR<|tR<|bR<|tR ?_;have h:m.drop k=[]:=List.drop_of_length_le oM;rw[h] at a;exact za8 (.inl I) results190 I ⟨by rw[a]; rfl,rfl,rfl⟩
  ·have e:k<m.length:=oM;have A:=za6 n oM;have B:m[((k:Nat):Int).toNat]?=some m[k]:=List.getElem?_eq_getElem e;have b:m.drop k=m[k]::m.drop (k+1):=zg8 e;generalize m[k]=y at *;rw[b] at a;refine kP<|tN<|sW I<|lM I<|lU (iA az zT3 I I A oM sL)<|SL.K (eB iT3 I (za7 n) B I)<|aT I<|sW I<|lM I<|lW (SO.call call90 I<|dH E g _ x y) ?_;rintro _ _ _ ⟨rfl,rfl,rfl⟩;refine aT I<|sW I<|lU (nQ I I)<|tZ<|iP I (fun hd=>?_) (fun hd=>?_)
   ·exact sW I<|aT I<|rE<|bR<|tR<|tR<|bR<|tR<|za8 (.inl I) results190 I ⟨by rw[a,ic,zg3 hd],I,I⟩
   ·exact kP<|bN<|tN<|rG<|yD I<|lM I<|SL.nil<|ST.again (k+1) sB I I ⟨oM,oM,by rw[a,ic,zg2 hd]⟩ oM
 ·refine xI<|tX<|tX<|bX<|tN<|sQ<|sW I<|lU (eN az I)<|lM I<|lU (eN az I)<|yL I<|tZ ?_;have C:l.drop k=[]:=List.drop_of_length_le oM;rw[C] at a;refine iP I (fun D=>?_) (fun D=>?_)
  ·refine rZ<|aT I<|rE<|tR ?_;have e:k<m.length:=oM;have b:m.drop k=m[k]::m.drop (k+1):=zg8 e;rw[b] at a;exact za8 (.inl I) results190 I ⟨by rw[a]; rfl,rfl,rfl⟩
  ·refine kP<|tN<|rZ<|aT I<|rE ?_;have h:m.drop k=[]:=List.drop_of_length_le oM;rw[h] at a;exact za8 (.inl I) results190 I ⟨by rw[a]; rfl,rfl,rfl⟩
theorem lm (E:World)(g:PH)(s:Own)(v u:Value)(l m:List Int)(a:dp g v l)(b:dp g u m)(hl:l.length<1099511627776) :
  Ctr Tryz.prog E 136 #[v,u] g s (fun r g' s'=>r=vi (ar l m)∧g=g'∧s=s'):=by
 obtain ⟨p,c,rfl⟩:=za4 a;obtain ⟨q,d,rfl⟩:=za4 b;refine zb2 (args:=[.slice p l.length c,.slice q m.length d]) func136 I ntmps136 (bE I)<|rZ<|aT I<|sW I<|lU (eN az I)<|lM I<|lU (eN az I)<|lW (SO.call call90 I<|dH E g _ l.length m.length) ?_;rintro _ _ _ ⟨rfl,rfl,rfl⟩;refine lM I<|lM I<|lW (SO.call call190 I<|xj E g _ _ _ l m a b hl) ?_;rintro _ _ _ ⟨rfl,rfl,rfl⟩;refine lW (bS sty52 I I I (ab sB) dC) ?_;rintro _ _ _ ⟨e,rfl,rfl,rfl⟩;refine lW (SO.call call157 I<|A5 E g _ _ [ie l.length m.length,ic l m] (Rd.pt 0 I) ⟨_,_,I⟩ (fun _=>I) (by simp)) ?_;rintro _ _ _ ⟨rfl,rfl,rfl⟩;exact aT I<|rE<|dR (s':=s) uR<|za8 (.inl I) results136 I ⟨by unfold ar; simp only[orI]; split <;> simp_all,I,I⟩
def dU (g:PH)(l:List Int)(r:Sv):Prop:=dp g (.slice r.p r.n r.c) l
theorem dU.mono {g g':PH}(hl:Le g g'){l:List Int}{r:Sv}(h:dU g l r):dU g' l r:=za5 h hl
theorem dU.len {g:PH}{l:List Int}{r:Sv}(h:dU g l r):r.n=l.length:=(SlA.cap h).1
def cU (g:PH)(v:Value)(l:List (List Int)):Prop:=∃ rs,SlA dL g v rs∧ax (dU g) l rs
theorem cU.mono {g g':PH}{v:Value}{l:List (List Int)}(h:cU g v l)(hl:Le g g'):cU g' v l:=by
 obtain ⟨rs,a,b⟩:=h;exact⟨rs,a.mono hl,b.mono fun _ _=>dU.mono hl⟩
def eV (bits:Nat)(l:List Int):List Int:=(l.zipIdx.filter fun p=>bits / 2 ^ p.2 % 2 == 1).map (·.1)
def bL (l:List Int):List (List Int):=(List.range<|2 ^ l.length - 1).map fun i=>eV (i+1) l
theorem AY:∀ n,n<10→IntKind.i64.wrap (1 * 2 ^ min ((n:Nat):Int).toNat IntKind.i64.bits)=((2 ^ n:Nat):Int):=by decide
theorem AX (b k:Nat)(c:k<10):(((b:Nat):Int).fdiv<|2 ^ min ((k:Nat):Int).toNat IntKind.i64.bits) % 2=((b / 2 ^ k % 2:Nat):Int):=by
 have a:min ((k:Nat):Int).toNat IntKind.i64.bits=k:=by
  have:IntKind.i64.bits=64:=rfl;rw[this]; omega
 rw[a,Int.fdiv_eq_ediv_of_nonneg _<|Int.le_of_lt<|Int.pow_pos dC];simp
theorem AH (n:Nat)(h:n≤9):2 ^ n≤512:=by
 have:(2:Nat) ^ n≤2 ^ 9:=Nat.pow_le_pow_right dC h;simpa using this
theorem qY {bits k:Nat}{l:List Int}(h:k<l.length):eV bits (l.take<|k+1)=if bits / 2 ^ k % 2=1 then eV bits (l.take k)++[l[k]] else eV bits (l.take k):=by
 unfold eV;rw[tS h,List.zipIdx_append,zh8,zg7];have:(List.take k l).length=k:=by rw[ze6]; omega
 rw[this];simp only[List.zipIdx_cons,List.zipIdx_nil,Nat.zero_add,zi9,List.filter_nil];by_cases hb:bits / 2 ^ k % 2=1
 ·simp[hb]
 ·simp[hb]
theorem gp (bits:Nat)(l:List Int):(eV bits l).length≤l.length:=by
 unfold eV;rw[ze8];have:=zc6 (fun p:Int×Nat=>bits / 2 ^ p.2 % 2 == 1) l.zipIdx;simpa using this
theorem vg (E:World)(g:PH)(s:Own)(v:Value)(l:List Int)(u:dp g v l)(hl:l.length≤9) :
  Ctr Tryz.prog E 134 #[v] g s (fun r g' s'=>s=s'∧Le g g'∧cU g' r (bL l)):=by
 obtain ⟨p,c,rfl⟩:=za4 u;have G:=AH l.length hl;refine zb2 (args:=[.slice p l.length c]) func134 I ntmps134 (bE I)<|rZ<|aT I<|rZ<|aT I<|sQ<|rZ<|aT I<|bK<|zb6 52 1<|oP (ι:=PH×Value×Nat×List Sv) (fun i=>[(0,.slice p l.length c),(3,i.2.1),(4,vi (i.2.2.1+1:Nat))]) (fun i=>i.1)
  (fun i=>rowA dL 52 i.2.1 i.2.2.2::s) (fun i=>Le g i.1∧i.2.2.1+1≤2 ^ l.length∧ax (dU i.1) ((List.range i.2.2.1).map fun j=>eV (j+1) l) i.2.2.2) (fun i=>2 ^ l.length - i.2.2.1)
  (g,.slice none 0 0,0,[]) sB rfl rfl ⟨zb9 g,Nat.one_le_two_pow,trivial⟩ ?_
 rintro ⟨g1,ov,b,rs⟩ ⟨f,hb,a⟩;dsimp only at f hb a ⊢;have x:=a.length;simp only[ze8,zi6] at x;refine sQ<|sW I<|lM I<|lU (eN az I)<|lU (SU.eq (v':=vi ((2 ^ l.length:Nat):Int)) (SU.shl I I oM)<|ze4 vi<|AY l.length oM)<|yL I<|tZ<|iP I (fun y=>?_) (fun y=>?_)
 ·have z:b+1<2 ^ l.length:=oM;refine kP<|tN<|sQ<|bK<|rZ<|aT I<|sQ<|sQ<|zb6 3 1<|rG<|lM I<|lU (eN az I)<|lM I<|tZ<|bK<|oP (ι:=Value×Nat) (fun i=>[(0,.slice p l.length c),(3,ov),(4,vi (b+1:Nat)),(5,i.1),(15,.slice p l.length c),(16,vi l.length),(17,vi i.2)]) (fun _=>g1)
   (fun i=>rowA encInt 3 i.1 (eV (b+1)<|l.take i.2)::rowA dL 52 ov rs::s) (fun i=>i.2≤l.length) (fun i=>l.length - i.2) (.slice none 0 0,0)
   sB rfl rfl (zf8 _) ?_
  rintro ⟨cv,k⟩ H;dsimp only at H ⊢;have A:=gp (b+1)<|l.take k;rw[ze6] at A;refine rZ<|yL I<|tZ<|sQ<|iP I (fun n=>?_) (fun n=>?_)
  ·have o:k<l.length:=oM;have B:=za6 (u.mono f) oM;have h:=qY (bits:=b+1) o;refine kP<|tN<|sQ<|bK<|sW I<|lU (iA az zT3 I I B oM sL)<|SL.q (eB iT3 I (za7<|u.mono f) (List.getElem?_eq_getElem o) I) dC ?_;refine lA I<|aT I<|sW I<|lM I<|lU (SU.shr I I oM)<|lU (SU.eq (v':=vi (((b+1) / 2 ^ k % 2:Nat):Int)) (SU.and I I)<|ze4 vi<|(vY _).trans<|AX (b+1) k oM)<|yE I<|tZ<|iP I (fun t=>?_) (fun t=>?_)
   ·refine rG<|lM I<|lM I<|lW (bS sty52 I I I (ab sB) dC) ?_;rintro _ _ _ ⟨J,rfl,rfl,rfl⟩;refine lW (aP 0 l[k] sty52 I I I I I oM oM) ?_;rintro cv' _ _ ⟨rfl,rfl⟩;refine lA I<|SL.nil<|bN<|tN<|rG<|yD I<|lM I<|SL.nil ?_;refine ST.to (fun w C=>?_) (g':=g1) (s':=rowA encInt 3 cv' (eV (b+1)<|l.take<|k+1)::rowA dL 52 ov rs::s) ?_
    ·rw[h,zg3 oM]; exact C
    exact ST.again (cv',k+1) sB I I lN lN
   ·refine kP<|bN<|tN<|rG<|yD I<|lM I<|SL.nil ?_;refine ST.to (fun w C=>?_) (g':=g1) (s':=rowA encInt 3 cv (eV (b+1)<|l.take<|k+1)::rowA dL 52 ov rs::s) ?_
    ·rw[h,zg2 oM]; exact C
    exact ST.again (cv,k+1) sB I I lN lN
  ·have D:l.take k=l:=tL oM;refine xI (tX (tX (bX (tN (rG (zd6 fun g2 d m=>?_))))));rw[D] at m;obtain ⟨q2,d2,rfl⟩:=za4 (e:=encInt) m;refine lM I (lM I (lW (bS sty22 I I I (ab sB) dC) ?_));rintro _ _ _ ⟨K,rfl,rfl,rfl⟩;refine lW (aP (e:=dL) 0 ⟨q2,(eV (b+1) l).length,d2⟩ sty22 I I I I I oM oM) ?_;rintro ov' _ _ ⟨rfl,rfl⟩;refine lA I (SL.nil (bN (tN (rG (lM I (yD I (lA I (SL.nil ?_))))))));exact ST.again (g2,ov',b+1,rs++[⟨q2,(eV (b+1) l).length,d2⟩]) ⟨I,I,bD (by simp),trivial⟩ I I ⟨f.trans d,z,by
    dsimp only;rw[List.range_succ,zg7];exact (a.mono fun _ _=>dU.mono d).append ⟨m,trivial⟩⟩ lN
 ·refine xI (tX<|tX<|bX<|tN<|sW I<|aT I<|rE<|fT fun g2 d m=>?_);have F:b=2 ^ l.length - 1:=oM;exact za8 (.inl I) results134 I ⟨I,f.trans d,rs,m,by rw[F] at a; exact a.mono fun _ _=>dU.mono d⟩
def bg {α:Type}(eq:α→α→Bool):α→List α→List α
 | _,[]=>[]
 | x,y::r=>if eq y x then bg eq y r else y::bg eq y r
def iT {α:Type}(eq:α→α→Bool):List α→List α
 | []=>[]
 | x::r=>x::bg eq x r
theorem jt {α:Type}(eq:α→α→Bool):∀ (x:α) (a:List α) (y:α) (r:List α),bg eq x (a++y::r)=bg eq x (a++[y])++bg eq y r
 | x,[],y,r=>by simp only[List.nil_append,bg]; split <;> simp
 | x,z::a,y,r=>by
  simp only[List.cons_append,bg];split
  ·exact jt eq z a y r
  ·rw[jt eq z a y r]; rfl
theorem jh {α:Type}(eq:α→α→Bool)(a:List α)(y:α)(r:List α):iT eq (a++y::r)=iT eq (a++[y])++bg eq y r:=by
 cases a with
 | nil=>rfl
 | cons x a=>simp only[List.cons_append,iT]; rw[jt]
theorem mn {α:Type}(eq:α→α→Bool):∀ (x:α) (r:List α),(bg eq x r).length≤r.length
 | _,[]=>Nat.le_refl _
 | x,y::r=>by
  have:=mn eq y r;simp only[bg];split <;> simp <;> omega
theorem kX {α:Type}(eq:α→α→Bool)(l:List α):(iT eq l).length≤l.length:=by
 cases l with
 | nil=>exact Nat.le_refl _
 | cons x r=>have:=mn eq x r; simp[iT]; exact this
theorem xN {α:Type}{l:List α}{k:Nat}(h:k+1<l.length):∃ A x y R,l=A++x::y::R∧A.length=k:=by
 refine⟨l.take k,l[k],l[k+1],l.drop<|k+2,?_,by rw[ze6]; omega⟩;have a:l.drop k=l[k]::l.drop (k+1):=zg8 oM;have b:l.drop (k+1)=l[k+1]::l.drop (k+2):=zg8 oM;rw[← b,← a,zj4]
theorem rS {α:Type}(A:List α)(x:α)(R:List α):(A++x::R).take (A.length+1)=A++[x]:=by
 rw[List.take_append,tL oM];simp
theorem ky {α:Type}(eq:α→α→Bool){l:List α}(h:l.length<2):iT eq l=l:=by
 match l,h with
 | [],_=>rfl
 | [a],_=>rfl
theorem oa {b o n c l k:Nat}(h:l<c):sliced (some ⟨b,o,none⟩) l n c k = .slice (some ⟨b,o+l * k,none⟩) (n - l) (c - l):=by
 have a:(⟨b,o,none⟩:Addr).add (l * k)=⟨b,o+l * k,none⟩:=by unfold Addr.add; split <;> simp_all
 simp only[sliced];rw[zg2 oM];simp[a]
theorem CR {b o n c k:Nat}:sliced (some ⟨b,o,none⟩) 0 n c k = .slice (some ⟨b,o,none⟩) n c:=by
 have a:(⟨b,o,none⟩:Addr).add 0=⟨b,o,none⟩:=by unfold Addr.add; split <;> simp_all
 simp[sliced,a]
theorem rT {α:Type}{k:Nat}{e:Enc α k}{E:World}{g:PH}{s:Own}{w:World}{T:TypeId}{p:Option Addr}{c i:Nat}{l:List α}(h:At E g s w)(d:s[i]?=some (rowA e T (.slice p l.length c) l))(n:0<l.length):∃ b cap,p=some ⟨b,0,none⟩∧c=cap+1∧l.length≤cap+1:=by
 obtain ⟨_,f⟩:=gX h d
 rcases f with ⟨q,_,o⟩ | ⟨b,cap,j,m,_,a,_⟩
 ·omega
 ·injection m with e1 e2 e3
  exact⟨b,cap,e1,e3,a⟩
theorem DX {α:Type}(e1:Enc α 1)(val:α→Value)(d:∀ a,e1.enc a=[val a])(P:∀ a,(val a).cells = #[val a])(E:World)(g:PH)(s:Own)(v:Value)(fn:FuncId)(eq:α→α→Bool)(l:List α)(hl:l.length<1099511627776)
  (f:∀ a b s',cz Tryz.prog E (.func (.func fn) #[] #[]) [val a,val b] g s' (fun r g' Q=>r=vb (eq a b)∧g=g'∧s'=Q)) :
  Ctr Tryz.prog E 137 #[v,.func (.func fn) #[] #[]] g (rowA e1 52 v l::s) (fun r g' s'=>g=g'∧s'=rowA e1 52 r (iT eq l)::s):=by
 refine Ctr.facts fun ⟨w0,u⟩=>?_;obtain ⟨p,c,rfl⟩:=ag (i:=0) u rfl;have G:=fun h=>rT (i:=0) u rfl h;clear u w0;refine zb2 (args:=[.slice p l.length c,.func (.func fn) #[] #[]]) func137 I ntmps137 (bE I)<|rZ<|aT I<|sQ<|sW I<|lU (eN eL I)<|yL I<|tZ<|iP I (fun h2=>?_) (fun h2=>?_)
 ·exact sW I<|aT I<|rE<|tR<|za8 (.inl I) results137 I ⟨I,by rw[ky eq oM]⟩
 ·obtain ⟨b,cap,rfl,rfl,a2⟩:=G oM;refine kP<|tN<|sQ<|rZ<|aT I<|bK<|oP (ι:=Nat) (fun k=>[(0,.slice (some ⟨b,0,none⟩) l.length<|cap+1),(1,.func (.func fn) #[] #[]),(5,vi<|k+1)]) (fun _=>g) (fun _=>rowA e1 52 (.slice (some ⟨b,0,none⟩) l.length<|cap+1) l::s) (fun k=>k+1≤l.length∧iT eq (l.take<|k+1)=l.take (k+1)) (fun k=>l.length - k) 0
   sB rfl rfl ⟨oM,ky eq (by rw[ze6]; omega)⟩ ?_
  rintro k ⟨hk,m⟩;refine sQ<|sW I<|lM I<|lU (eN eL I)<|yL I<|tZ<|iP I (fun S=>?_) (fun S=>?_)
  ·obtain ⟨A,x,y,R,e,hA⟩:=xN (l:=l) (k:=k) oM;have a3:l.length=k+2+R.length:=by rw[e]; simp; omega
   have T:l[((k:Int)+1).toNat]?=some y:=by
    have U:l=(A++[x])++y::R:=by rw[e]; simp
    rw[U]; exact bM (by simp; omega)
   have V:l[((k:Int)+1 - 1).toNat]?=some x:=by rw[e]; exact bM oM
   have W:l.take (k+1)=A++[x]:=by rw[e,← hA]; exact rS A x<|y::R
   rw[W] at m;refine kP<|tN<|sQ<|bK<|sQ<|dW [] [(0,2),(1,2),(2,2),(3,2),(4,1),(5,2),(6,2),(7,2),(8,2),(9,1),(10,0)] ze5 kR<|yM I<|yM I<|yM I<|pU I (iA eL fY I I I oM sL)<|pK I (eB hZ I (zb7 0 I) T<|d _)<|yM I<|yM I<|pU I (sU I I oM)<|pU I (iA eL fY I I I oM sL)<|pK I (eB hZ I (zb7 0 I) V<|d _)<|SP.o I (SO.callV I I<|f _ _ _) dC (.inr iR) ?_;rintro _ _ _ ⟨rfl,rfl,rfl⟩;refine pN<|tN<|iQ I (fun B=>?_) (fun B=>?_)
   ·have hU:iT eq l=(A++[x])++bg eq y R:=by rw[e,jh,m]; simp only[bg,B,if_true]
    refine sW I<|lM I<|lU (SU.eq (v':=.slice (some ⟨b,0+(k+1) * 1,none⟩) (l.length - (k+1))<|cap+1 - (k+1)) (SU.sliceL eL fY I I oM oM) (by rw[show ((k:Int)+1).toNat=k+1 by omega]; exact oa oM)) ?_;refine aT I<|sQ<|rZ<|aT I<|bK ?_;refine oP (ι:=List α×List α×α×List α×Nat) (fun i=>[(0,.slice (some ⟨b,0,none⟩) l.length<|cap+1),(1,.func (.func fn) #[] #[]),(5,vi i.1.length),(6,.slice (some ⟨b,0+(k+1) * 1,none⟩) (l.length - (k+1))<|cap+1 - (k+1)),(7,vi i.2.2.2.2)]) (fun _=>g)
     (fun i=>rowA e1 52 (.slice (some ⟨b,0,none⟩) l.length<|cap+1) (i.1++(i.2.1++[i.2.2.1])++i.2.2.2.1)::s)
     (fun i=>i.1.length+i.2.1.length=k+i.2.2.2.2∧1≤i.2.2.2.2∧iT eq l=i.1++bg eq i.2.2.1 i.2.2.2.1∧i.1.length+i.2.1.length+1+i.2.2.2.1.length=l.length) (fun i=>i.2.2.2.1.length)
     (A++[x],[],y,R,1) ⟨rfl,rfl,bD lN,rfl,rfl,trivial⟩ rfl (by dsimp only; rw[e]; simp) ⟨lN,Nat.le_refl _,hU,lN⟩ ?_
    rintro ⟨D,J0,z,R',n⟩ ⟨X,Y,O,t⟩;dsimp only at X Y O t ⊢;have a4:(D++(J0++[z])++R').length=l.length:=lN;refine sQ<|sW I<|lM I<|lU (eN eL I)<|yL I<|tZ<|iP I (fun H=>?_) (fun H=>?_)
    ·cases R' with
     | nil=>simp at t; omega
     | cons y' R2 =>
     simp only[zf1] at t;have L:((D++(J0++[z])++y'::R2).drop<|k+1)[((n:Nat):Int).toNat]?=some y':=by
      rw[zi4]; exact bM lN
     have Z:((D++(J0++[z])++y'::R2).drop<|k+1)[((n:Nat):Int) - 1 |>.toNat]?=some z:=by
      rw[zi4,show D++(J0++[z])++y'::R2=(D++J0)++z::y'::R2 by simp]; exact bM lN
     have C:∀ s',Rd g (rowA e1 52 (.slice (some ⟨b,0,none⟩) l.length<|cap+1) (D++(J0++[z])++y'::R2)::s') (.slice (some ⟨b,0+(k+1) * 1,none⟩) (l.length - (k+1))<|cap+1 - (k+1)) (((D++(J0++[z])++y'::R2).drop<|k+1).flatMap e1.enc):=fun s'=>by
      rw[Nat.zero_add]; exact Rd.fromA<|zb7 0 I
     refine kP<|tN<|sQ<|bK<|sQ<|dW [] [(0,2),(1,2),(2,2),(3,2),(4,1),(5,2),(6,2),(7,2),(8,2),(9,1),(10,0),(11,2)] ze5 kR<|yM I<|yM I<|yM I<|pU I (iA eL fY I I I oM sL)<|pK I (eB hZ I (C _) L<|d _)<|yM I<|yM I<|pU I (sU I I oM)<|pU I (iA eL fY I I I oM sL)<|pK I (eB hZ I (C _) Z<|d _)<|SP.o I (SO.callV I I<|f _ _ _) dC (.inr iR) ?_;rintro _ _ _ ⟨rfl,rfl,rfl⟩;refine pU I (SU.not I)<|pN<|tN<|iQ I (fun F=>?_) (fun F=>?_)
     ·have M:eq y' z=false:=by simpa using F
      refine sW I<|lM I<|lM I<|lM I<|lU (iA eL fY I I I oM sL)<|SL.K (eB hZ I (C _) L<|d _)<|lU (iA eL fY I I I oM sL)<|oZ (SO.setA (a:=y') 0 fY I I I lN<|by rw[P,d]) ?_;refine tZ<|rG<|lM I<|yD I<|lA I<|SL.nil<|bN<|tN<|rG<|lM I<|yD I<|lA I<|SL.nil ?_;have q:∃ J',(D++(J0++[z])++y'::R2).set ((D.length:Nat):Int).toNat y'=(D++[y'])++(J'++[y'])++R2∧J'.length=J0.length:=by
       cases J0 with
       | nil=>exact⟨[],by rw[show D++([]++[z])++y'::R2=D++z::y'::R2 by simp,dN oM]; simp,rfl⟩
       | cons j J1=>exact⟨J1++[z],by rw[show D++(j::J1++[z])++y'::R2=D++j::(J1++[z]++y'::R2) by simp,dN oM]; simp,by simp⟩
      obtain ⟨J',q,a5⟩:=q;refine ST.to (fun w N=>?_) (g':=g) (s':=rowA e1 52 (.slice (some ⟨b,0,none⟩) l.length<|cap+1) ((D++[y'])++(J'++[y'])++R2)::s) ?_
      ·rw[← q]; exact N
      exact ST.again (D++[y'],J',y',R2,n+1) ⟨I,I,bD lN,I,I,trivial⟩ I I ⟨lN,lN,by rw[O]; simp only[bg,M]; simp,lN⟩ lN
     ·have a0:eq y' z=true:=by simpa using F
      refine kP<|bN<|tN<|rG<|lM I<|yD I<|lA I<|SL.nil ?_;refine ST.to (fun w N=>?_) (g':=g) (s':=rowA e1 52 (.slice (some ⟨b,0,none⟩) l.length<|cap+1) (D++((J0++[z])++[y'])++R2)::s) ?_
      ·rw[show D++((J0++[z])++[y'])++R2=D++(J0++[z])++y'::R2 by simp]; exact N
      exact ST.again (D,J0++[z],y',R2,n+1) sB I I ⟨lN,lN,by rw[O]; simp only[bg,a0]; simp,lN⟩ lN
    ·have hR:R'=[]:=zf6 oM;subst hR;simp only[zc5] at t;refine xI<|tX<|tX<|bX<|tN<|rZ ?_;refine SL.to (fun w N=>At.shrink (i:=0) (D:=D) (J:=J0++[z]) N (by rw[zc7]; rfl) rfl) ?_;refine lM I<|lM I<|lU (SU.eq (v':=.slice (some ⟨b,D.length * 1,none⟩) (l.length - D.length)<|cap+1 - D.length) (SU.sliceL eL fY I I oM oM)<|by rw[Int.toNat_natCast,oa oM,Nat.zero_add]) ?_;refine lO (SO.clearA (D:=D) 0 sty22 (mD (l:=[.slice none 0 0]) ⟨I,trivial⟩) I I I oM) ?_;rintro _ _ _ ⟨rfl,rfl⟩;refine tZ<|sW I<|lM I<|lU (SU.eq (v':=.slice (some ⟨b,0,none⟩) D.length<|cap+1) (SU.sliceH eL fY I I oM oM) (by rw[Int.toNat_natCast]; exact CR)) ?_;refine aT I<|rE<|bR<|tR<|tR<|bR<|tR ?_;exact za8 (.inl I) results137 I ⟨I,by rw[O]; simp[bg]⟩
   ·refine kP (bN (tN (rG (lM I (yD I (lA I (SL.nil ?_)))))));exact ST.again (k+1) ⟨I,I,bD oM,trivial⟩ I I ⟨oM,by
     have U:l=(A++[x])++y::R:=by rw[e]; simp
     have h4:l.take (k+1+1)=(A++[x])++[y]:=by
      rw[U,show k+1+1=(A++[x]).length+1 by simp; omega]; exact rS _ y R
     rw[h4,show (A++[x])++[y]=A++x::[y] by simp,jh,m];simp[bg,B]⟩ oM
  ·have a1:k+1=l.length:=oM;rw[a1,tL<|Nat.le_refl _] at m;exact xI<|tX<|tX<|bX<|tN<|sW I<|aT I<|rE<|za8 (.inl I) results137 I ⟨I,by rw[m]⟩
theorem DY (E:World)(g:PH)(s:Own)(v:Value)(l:List Int)(hl:l.length<17592186044416) :
  Ctr Tryz.prog E 133 #[v] g (rowA encInt 3 v l::s) (fun r g' s'=>g=g'∧s'=rowA encInt 3 r (iT (fun a b:Int=>decide (a=b)) l)::s):=by
 refine Ctr.facts fun ⟨w0,o⟩=>?_;obtain ⟨p,c,rfl⟩:=ag (i:=0) o rfl;have B:=fun h=>rT (i:=0) o rfl h;clear o w0;refine zb2 (args:=[.slice p l.length c]) func133 I ntmps133 (bE I)<|rZ<|aT I<|sQ<|sW I<|lU (eN az I)<|yL I<|tZ<|iP I (fun Z=>?_) (fun Z=>?_)
 ·exact sW I<|aT I<|rE<|tR<|za8 (.inl I) results133 I ⟨I,by rw[ky (fun a b:Int=>decide (a=b)) oM]⟩
 ·obtain ⟨b,cap,rfl,rfl,X⟩:=B oM;refine kP<|tN<|sQ<|rZ<|aT I<|bK<|oP (ι:=Nat) (fun k=>[(0,.slice (some ⟨b,0,none⟩) l.length<|cap+1),(3,vi<|k+1)]) (fun _=>g) (fun _=>rowA encInt 3 (.slice (some ⟨b,0,none⟩) l.length<|cap+1) l::s) (fun k=>k+1≤l.length∧iT (fun a b:Int=>decide (a=b)) (l.take<|k+1)=l.take (k+1)) (fun k=>l.length - k) 0
   sB rfl rfl ⟨oM,ky (fun a b:Int=>decide (a=b)) (by rw[ze6]; omega)⟩ ?_
  rintro k ⟨hk,e⟩;refine sQ<|sW I<|lM I<|lU (eN az I)<|yL I<|tZ<|iP I (fun M=>?_) (fun M=>?_)
  ·obtain ⟨A,x,y,R,d,hA⟩:=xN (l:=l) (k:=k) oM;have Y:l.length=k+2+R.length:=by rw[d]; simp; omega
   have N:l[((k:Int)+1).toNat]?=some y:=by
    have O:l=(A++[x])++y::R:=by rw[d]; simp
    rw[O]; exact bM (by simp; omega)
   have P:l[((k:Int)+1 - 1).toNat]?=some x:=by rw[d]; exact bM oM
   have Q:l.take (k+1)=A++[x]:=by rw[d,← hA]; exact rS A x<|y::R
   rw[Q] at e;refine kP<|tN<|sQ<|bK<|sQ<|dW [] [(0,2),(1,2),(2,2),(3,1),(4,2),(5,2),(6,2),(7,2),(8,1),(9,2)] ze5 kR<|yM I<|yM I<|pU I (iA az zT3 I I I oM sL)<|pK I (eB iT3 I (zb7 0 I) N I)<|yM I<|yM I<|pU I (sU I I oM)<|pU I (iA az zT3 I I I oM sL)<|pK I (eB iT3 I (zb7 0 I) P I)<|pU I (eQ I I)<|pN<|tN<|iQ I (fun q=>?_) (fun q=>?_)
   ·have hU:iT (fun a b:Int=>decide (a=b)) l=(A++[x])++bg (fun a b:Int=>decide (a=b)) y R:=by rw[d,jh,e]; simp only[bg,q,if_true]
    refine sW I<|lM I<|lU (SU.eq (v':=.slice (some ⟨b,0+(k+1) * 1,none⟩) (l.length - (k+1))<|cap+1 - (k+1)) (SU.sliceL az zT3 I I oM oM) (by rw[show ((k:Int)+1).toNat=k+1 by omega]; exact oa oM)) ?_;refine aT I<|sQ<|rZ<|aT I<|bK ?_;refine oP (ι:=List Int×List Int×Int×List Int×Nat) (fun i=>[(0,.slice (some ⟨b,0,none⟩) l.length<|cap+1),(3,vi i.1.length),(4,.slice (some ⟨b,0+(k+1) * 1,none⟩) (l.length - (k+1))<|cap+1 - (k+1)),(5,vi i.2.2.2.2)]) (fun _=>g)
     (fun i=>rowA encInt 3 (.slice (some ⟨b,0,none⟩) l.length<|cap+1) (i.1++(i.2.1++[i.2.2.1])++i.2.2.2.1)::s)
     (fun i=>i.1.length+i.2.1.length=k+i.2.2.2.2∧1≤i.2.2.2.2∧iT (fun a b:Int=>decide (a=b)) l=i.1++bg (fun a b:Int=>decide (a=b)) i.2.2.1 i.2.2.2.1∧i.1.length+i.2.1.length+1+i.2.2.2.1.length=l.length) (fun i=>i.2.2.2.1.length)
     (A++[x],[],y,R,1) ⟨rfl,bD lN,rfl,rfl,trivial⟩ rfl (by dsimp only; rw[d]; simp) ⟨lN,Nat.le_refl _,hU,lN⟩ ?_
    rintro ⟨D,J0,z,R',n⟩ ⟨S,T,L,m⟩;dsimp only at S T L m ⊢;have a0:(D++(J0++[z])++R').length=l.length:=lN;refine sQ<|sW I<|lM I<|lU (eN az I)<|yL I<|tZ<|iP I (fun C=>?_) (fun C=>?_)
    ·cases R' with
     | nil=>simp at m; omega
     | cons y' R2 =>
     simp only[zf1] at m;have F:((D++(J0++[z])++y'::R2).drop<|k+1)[((n:Nat):Int).toNat]?=some y':=by
      rw[zi4]; exact bM lN
     have U:((D++(J0++[z])++y'::R2).drop<|k+1)[((n:Nat):Int) - 1 |>.toNat]?=some z:=by
      rw[zi4,show D++(J0++[z])++y'::R2=(D++J0)++z::y'::R2 by simp]; exact bM lN
     have t:∀ s',Rd g (rowA encInt 3 (.slice (some ⟨b,0,none⟩) l.length<|cap+1) (D++(J0++[z])++y'::R2)::s') (.slice (some ⟨b,0+(k+1) * 1,none⟩) (l.length - (k+1))<|cap+1 - (k+1)) (((D++(J0++[z])++y'::R2).drop<|k+1).flatMap encInt.enc):=fun s'=>by
      rw[Nat.zero_add]; exact Rd.fromA<|zb7 0 I
     refine kP<|tN<|sQ<|bK<|sQ<|dW [] [(0,2),(1,2),(2,2),(3,1),(4,2),(5,2),(6,2),(7,2),(8,1),(9,2)] ze5 kR<|yM I<|yM I<|pU I (iA az zT3 I I I oM sL)<|pK I (eB iT3 I (t _) F I)<|yM I<|yM I<|pU I (sU I I oM)<|pU I (iA az zT3 I I I oM sL)<|pK I (eB iT3 I (t _) U I)<|pU I (nQ I I)<|pN<|tN<|iQ I (fun u=>?_) (fun u=>?_)
     ·have G:decide (y'=z)=false:=by simpa using u
      refine sW I<|lM I<|lM I<|lM I<|lU (iA az zT3 I I I oM sL)<|SL.K (eB iT3 I (t _) F I)<|lU (iA az zT3 I I I oM sL)<|oZ (SO.setA (a:=y') 0 zT3 I I I lN I)<|tZ<|rG<|lM I<|yD I<|lA I<|SL.nil<|bN<|tN<|rG<|lM I<|yD I<|lA I<|SL.nil ?_;have f:∃ J',(D++(J0++[z])++y'::R2).set ((D.length:Nat):Int).toNat y'=(D++[y'])++(J'++[y'])++R2∧J'.length=J0.length:=by
       cases J0 with
       | nil=>exact⟨[],by rw[show D++([]++[z])++y'::R2=D++z::y'::R2 by simp,dN oM]; simp,rfl⟩
       | cons j J1=>exact⟨J1++[z],by rw[show D++(j::J1++[z])++y'::R2=D++j::(J1++[z]++y'::R2) by simp,dN oM]; simp,by simp⟩
      obtain ⟨J',f,a1⟩:=f;refine ST.to (fun w H=>?_) (g':=g) (s':=rowA encInt 3 (.slice (some ⟨b,0,none⟩) l.length<|cap+1) ((D++[y'])++(J'++[y'])++R2)::s) ?_
      ·rw[← f]; exact H
      exact ST.again (D++[y'],J',y',R2,n+1) ⟨I,bD lN,I,I,trivial⟩ I I ⟨lN,lN,by rw[L]; simp only[bg,G]; simp,lN⟩ lN
     ·have V:decide (y'=z)=true:=by simpa using u
      refine kP<|bN<|tN<|rG<|lM I<|yD I<|lA I<|SL.nil ?_;refine ST.to (fun w H=>?_) (g':=g) (s':=rowA encInt 3 (.slice (some ⟨b,0,none⟩) l.length<|cap+1) (D++((J0++[z])++[y'])++R2)::s) ?_
      ·rw[show D++((J0++[z])++[y'])++R2=D++(J0++[z])++y'::R2 by simp]; exact H
      exact ST.again (D,J0++[z],y',R2,n+1) sB I I ⟨lN,lN,by rw[L]; simp only[bg,V]; simp,lN⟩ lN
    ·have hR:R'=[]:=zf6 oM;subst hR;simp only[zc5] at m;refine xI<|tX<|tX<|bX<|tN<|rZ ?_;refine SL.to (fun w H=>At.shrink (i:=0) (D:=D) (J:=J0++[z]) H (by rw[zc7]; rfl) rfl) ?_;refine lM I<|lM I<|lU (SU.eq (v':=.slice (some ⟨b,D.length * 1,none⟩) (l.length - D.length)<|cap+1 - D.length) (SU.sliceL az zT3 I I oM oM)<|by rw[Int.toNat_natCast,oa oM,Nat.zero_add]) ?_;refine lO (SO.clearA (D:=D) 0 sty52 (mD (l:=[vi 0]) ⟨I,trivial⟩) I I I oM) ?_;rintro _ _ _ ⟨rfl,rfl⟩;refine tZ<|sW I<|lM I<|lU (SU.eq (v':=.slice (some ⟨b,0,none⟩) D.length<|cap+1) (SU.sliceH az zT3 I I oM oM) (by rw[Int.toNat_natCast]; exact CR)) ?_;refine aT I<|rE<|bR<|tR<|tR<|bR<|tR ?_;exact za8 (.inl I) results133 I ⟨I,by rw[L]; simp[bg]⟩
   ·refine kP (bN (tN (rG (lM I (yD I (lA I (SL.nil ?_)))))));exact ST.again (k+1) ⟨I,bD oM,trivial⟩ I I ⟨oM,by
     have O:l=(A++[x])++y::R:=by rw[d]; simp
     have h4:l.take (k+1+1)=(A++[x])++[y]:=by
      rw[O,show k+1+1=(A++[x]).length+1 by simp; omega]; exact rS _ y R
     rw[h4,show (A++[x])++[y]=A++x::[y] by simp,jh,e];simp[bg,q]⟩ oM
  ·have W:k+1=l.length:=oM;rw[W,tL<|Nat.le_refl _] at e;exact xI<|tX<|tX<|bX<|tN<|sW I<|aT I<|rE<|za8 (.inl I) results133 I ⟨I,by rw[e]⟩
theorem Fo (E:World)(g:PH)(s:Own)(n:Nat)(hn:n<1099511627776) :
  Ctr Tryz.prog E 191 #[.slice none 0 0,vi n] g s (fun r g' s'=>g=g'∧s'=rowA encInt 3 r []::s):=by
 refine zb2 (args:=[.slice none 0 0,vi n]) func191 I ntmps191 (bE I)<|rZ<|aT I<|sQ<|sW I<|yL I<|tZ<|iP I (fun a=>?_) (fun a=>?_)
 ·exfalso;omega
 ·refine kP<|tN<|sQ<|sW I<|lM I<|lU (SU.cap az I)<|lM I<|lU (eN az I)<|lU (sU I I oM)<|lU (SU.eq (v':=vi n) (sU I I oM)<|ze4 vi oM)<|aT I<|sW I<|lU (gR I I)<|tZ<|iP I (fun c=>?_) (fun c=>?_)
  ·refine rG<|lM I<|lM I<|lU (SU.cap az I)<|lU (SU.eq (v':=.slice none 0 0) (SU.sliceH az zT3 I I oM oM) I)<|lM I<|lW (SO.appendZ encInt sty52 uT3 I I oM oM oM) ?_;rintro _ _ _ ⟨b,cap,rfl,d,rfl,rfl⟩;exact lM I<|lU (eN az I)<|lU (SU.eq (v':=.slice (some ⟨b,0,none⟩) 0<|cap+1) (SU.sliceH az zT3 I I oM oM) CR)<|aT I<|sW I<|aT I<|rE<|za8 (.inl I) results191 I ⟨I,I⟩
  ·exact kP<|tN<|sW I<|aT I<|rE<|ST.nilRow 3 1<|za8 (.inl I) results191 I ⟨I,I⟩
def i4 (ls:List (List Int)):Nat:=(ls.map List.length).sum
theorem la (ls:List (List Int))(k:Nat):i4 (ls.take k)≤i4 ls:=by
 have h:=ze4 (fun l=>(l.map List.length).sum)<|zj4 k ls;simp only[zg7,List.sum_append] at h;unfold i4;omega
theorem o8 {ls:List (List Int)}{k:Nat}(h:k<ls.length):i4 (ls.take<|k+1)=i4 (ls.take k)+ls[k].length:=by
 unfold i4;rw[tS h,zg7,List.sum_append];rfl
theorem qA (ls:List (List Int)):ls.flatten.length=i4 ls:=List.length_flatten
theorem xh (E:World)(g:PH)(s:Own)(v:Value)(ls:List (List Int))(B:cU g v ls)(hn:ls.length<1099511627776)(hl:i4 ls<1099511627776) :
  Ctr Tryz.prog E 139 #[v] g s (fun r g' s'=>g=g'∧s'=rowA encInt 3 r ls.flatten::s):=by
 obtain ⟨rs,a,b⟩:=B;have A:=b.length;obtain ⟨p,c,rfl⟩:=za4 a;refine zb2 (args:=[.slice p rs.length c]) func139 I ntmps139 (bE I)<|rZ<|aT I<|rZ<|aT I<|sQ<|sW I<|lU (eN eL I)<|lM I<|tZ<|bK<|oP (ι:=Nat) (fun k=>[(0,.slice p rs.length c),(3,vi<|i4<|ls.take k),(9,.slice p rs.length c),(10,vi rs.length),(11,vi k)]) (fun _=>g) (fun _=>s) (fun k=>k≤rs.length) (fun k=>rs.length - k) 0
  sB rfl rfl (zf8 _) ?_
 rintro k J;have C:=la ls k;refine rZ<|yL I<|tZ<|sQ<|iP I (fun t=>?_) (fun t=>?_)
 ·have h:k<ls.length:=oM;have j:k<rs.length:=oM;have u:=b.get (List.getElem?_eq_getElem h)<|List.getElem?_eq_getElem j;have D:=u.len;have d:=a.based oM;have x:=o8 h;have y:=la ls<|k+1;refine kP<|tN<|sQ<|bK<|rZ<|lU (iA eL fY I I d oM sL)<|SL.q (eB hZ I a.rd (List.getElem?_eq_getElem j) I) dC ?_;refine aT I<|sW I<|lM I<|lU (eN az I)<|yD I<|aT I<|sW I<|yL I<|tZ<|iP I (fun l=>?_) (fun l=>?_)
  ·exfalso;omega
  ·exact kP<|bN<|tN<|rG<|yD I<|lM I<|SL.nil<|ST.again (k+1) ⟨I,bD oM,I,I,I,trivial⟩ I I oM oM
 ·have F:ls.take k=ls:=tL oM;refine xI<|tX<|tX<|bX<|tN<|sW I<|lW (SO.call call191 I<|Fo E g s (i4<|ls.take k) oM) ?_;rintro nv _ _ ⟨rfl,rfl⟩;refine aT I<|sQ<|sW I<|lU (eN eL I)<|lM I<|tZ<|bK<|oP (ι:=Value×Nat) (fun i=>[(0,.slice p rs.length c),(6,i.1),(25,.slice p rs.length c),(26,vi rs.length),(27,vi i.2)]) (fun _=>g) (fun i=>rowA encInt 3 i.1 (ls.take i.2).flatten::s) (fun i=>i.2≤rs.length) (fun i=>rs.length - i.2) (nv,0)
   sB rfl rfl (zf8 _) ?_
  rintro ⟨cv,m⟩ hm;dsimp only at hm ⊢;refine rZ<|yL I<|tZ<|sQ<|iP I (fun n=>?_) (fun n=>?_)
  ·have f:m<ls.length:=oM;have o:m<rs.length:=oM;have u:=b.get (List.getElem?_eq_getElem f)<|List.getElem?_eq_getElem o;have d:=a.based oM;have x:=o8 f;have y:=la ls<|m+1;have G:=qA<|ls.take m;refine kP<|tN<|sQ<|bK<|rZ<|lU (iA eL fY I I d oM sL)<|SL.q (eB hZ I a.rd (List.getElem?_eq_getElem o) I) dC ?_;refine aT I<|rG<|lM I<|lM I<|lW (aQ (e:=encInt) 0 sty52 I I I u oM oM) ?_;rintro cv' _ _ ⟨rfl,rfl⟩;refine lA I<|SL.nil<|bN<|tN<|rG<|yD I<|lM I<|SL.nil ?_;refine ST.to (fun w H=>?_) (g':=g) (s':=rowA encInt 3 cv' (ls.take<|m+1).flatten::s) ?_
   ·rw[tS f,List.flatten_append,List.flatten_singleton]; exact H
   exact ST.again (cv',m+1) sB I I lN lN
  ·have z:ls.take m=ls:=tL oM;rw[z];exact xI<|tX<|tX<|bX<|tN<|sW I<|aT I<|rE<|za8 (.inl I) results139 I ⟨I,I⟩
def lbL (ls:List (List Int))(t:List Int):Nat:=(ls.filter fun x=>decide (ar x t<0)).length
theorem Em {α:Type}{p:α→Bool}{l:List α}{i:Nat}(e:i≤l.length)(c:∀ k (h:k<l.length),k<i→p l[k]=true)(d:∀ k (h:k<l.length),i≤k→p l[k]=false):(l.filter p).length=i:=by
 rw[← zj4 i l,zh8,ze7];have f1:(l.take i).filter p=l.take i:=List.filter_eq_self.2 fun x a=>by
  obtain ⟨k,b,rfl⟩:=zc8 a;rw[ze6] at b;rw[List.getElem_take];exact c k oM oM
 have f2:(l.drop i).filter p=[]:=List.filter_eq_nil_iff.2 fun x a=>by
  obtain ⟨k,b,rfl⟩:=zc8 a;rw[zf2] at b;rw[List.getElem_drop,d (i+k) oM oM];simp
 rw[f1,f2];simp;omega
theorem Ai (E:World)(g:PH)(s:Own)(v u:Value)(ls:List (List Int))(t:List Int)(U:cU g v ls)(Q:dp g u t)(hl:ls.length<1099511627776)(w:∀ x∈ls,x.length<1099511627776)
  (R:∀ i j (X:i<ls.length) (C:j<ls.length),i<j→ar ls[j] t<0→ar ls[i] t<0) :
  Ctr Tryz.prog E 140 #[v,u,.func (.func 136) #[] #[]] g s (fun r g' s'=>(∃ b,r = .tuple #[vi<|lbL ls t,vb b])∧g=g'∧s=s'):=by
 obtain ⟨rs,a,d⟩:=U;have S:=d.length;obtain ⟨p,c,rfl⟩:=za4 a;refine zb2 (args:=[.slice p rs.length c,u,.func (.func 136) #[] #[]]) func140 I ntmps140 (bE I)<|rZ<|lA I<|aT I<|sW I<|lU (eN eL I)<|aT I<|sW I<|lA I<|aT I<|sQ<|bK<|oP (ι:=Nat×Nat) (fun q=>[(0,.slice p rs.length c),(1,u),(2,.func (.func 136) #[] #[]),(8,vi rs.length),(9,vi q.1),(10,vi q.2)]) (fun _=>g) (fun _=>s)
  (fun q=>q.1≤q.2∧q.2≤ls.length∧(∀ k (h:k<ls.length),k<q.1→ar ls[k] t<0)∧∀ k (h:k<ls.length),q.2≤k→¬ ar ls[k] t<0) (fun q=>q.2 - q.1) (0,ls.length)
  ⟨rfl,rfl,rfl,rfl,rfl,bD oM,trivial⟩ rfl rfl ⟨zf8 _,Nat.le_refl _,fun k _ h=>absurd h oM,fun k V D=>absurd V (by dsimp only at D; omega)⟩ ?_
 rintro ⟨i,j⟩ ⟨F,C,l,m⟩;dsimp only at F C l m ⊢;refine sQ<|sW I<|lM I<|yL I<|tZ<|iP I (fun G=>?_) (fun G=>?_)
 ·have H:=a.based oM;have y:((i:Int)+(j:Int)) / 2=(((i+j) / 2:Nat):Int):=oM;have e:(i+j) / 2<ls.length:=oM;have z:(i+j) / 2<rs.length:=oM;have J:rs[((((i+j) / 2:Nat):Int)).toNat]?=some rs[(i+j) / 2]:=List.getElem?_eq_getElem z;have W:=d.get (List.getElem?_eq_getElem e)<|List.getElem?_eq_getElem z;have n:=w _<|gM e;refine kP<|tN<|bK<|sW I<|lM I<|yD I<|lU (ze1 uT3 jN I)<|lU (SU.shr I I dC)<|lU (SU.eq (ze1 jN uT3 I)<|ze4 vi<|(lz _ oM oM).trans y)<|aT I<|sW I<|lM I<|lM I<|lU (iA eL fY I I H oM sL)<|SL.K (eB hZ I a.rd J I)<|lM I<|lW (SO.callV I I<|cz.mk (args:=[_,_]) (cap:=[]) call136<|lm E g _ _ _ ls[(i+j) / 2] t W Q n) ?_;rintro _ _ _ ⟨rfl,rfl,rfl⟩;refine yL I<|tZ<|iP I (fun A=>?_) (fun A=>?_)
  ·refine rG<|lM I<|yD I<|lA I<|SL.nil<|bN<|ST.again ((i+j) / 2+1,j) sB I I ⟨lN,C,fun k L h=>?_,m⟩ lN;dsimp only at h
   rcases Nat.eq_or_lt_of_le (show k≤(i+j) / 2 by omega) with rfl | f
   ·exact A
   ·exact R k ((i+j) / 2) L e f A
  ·refine rG<|lM I<|lA I<|SL.nil<|bN<|ST.again (i,(i+j) / 2) sB I I ⟨lN,lN,l,fun k L h=>?_⟩ lN;dsimp only at h
   rcases Nat.eq_or_lt_of_le (show (i+j) / 2≤k by omega) with f | f
   ·subst f; exact A
   ·exact fun M=>A<|R ((i+j) / 2) k e L f M
 ·have N:i=j:=oM;subst N;have B:lbL ls t=i:=Em C (fun k h f=>by simpa using l k h f) (fun k h f=>by simpa using m k h f);have O:=fun h=>a.based h;have M:(i:Int)<(rs.length:Int)→∃ r,rs[((i:Nat):Int).toNat]?=some r∧∃ x,dU g x r∧x.length<1099511627776:=fun h=>by
   have D:i<ls.length:=oM;have T:i<rs.length:=oM;exact⟨rs[i],List.getElem?_eq_getElem T,ls[i],d.get (List.getElem?_eq_getElem D)<|List.getElem?_eq_getElem T,w _<|gM D⟩
  by_cases o:(i:Int)<(rs.length:Int)
  ·obtain ⟨r,hr,x,P,n⟩:=M o;have hd:decide ((i:Int)<(rs.length:Int))=true:=zg1 o;refine xI<|tX<|tX<|bX<|tN<|sW I<|lM I<|lM I<|lU (SU.eq (lS I I)<|ze4 vb hd)<|lM I<|yC I<|yC I<|yC I<|lY I I I (iA eL fY I I (O oM) oM sL)<|SL.gq (gT I I I dC) (eB hZ I a.rd hr I) dC<|yC I<|ze3 (gT I I I dC) (SO.callV I I<|cz.mk (args:=[_,_]) (cap:=[]) call136<|lm E g _ _ _ x t P Q n) dC ?_;rintro _ _ _ ⟨rfl,rfl,rfl⟩;exact lY I I I (eQ I I)<|yP I<|lA I<|aT I<|rE<|ST.ret2 (.inl I) results140 I I ⟨⟨_,by rw[B]⟩,I,I⟩
  ·have hd:decide ((i:Int)<(rs.length:Int))=false:=zf9 o;exact xI<|tX<|tX<|bX<|tN<|sW I<|lM I<|lM I<|lU (SU.eq (lS I I)<|ze4 vb hd)<|lM I<|yA I<|yA I<|yA I<|yA I<|yA I<|yA I<|yA I<|yA I<|yF I<|lA I<|aT I<|rE<|ST.ret2 (.inl I) results140 I I ⟨⟨_,by rw[B]⟩,I,I⟩
theorem bA (a b:Int):(a<b∧ie a b = -1)∨(a=b∧ie a b=0)∨(b<a∧ie a b=1):=by
 unfold ie;by_cases h:a<b
 ·exact .inl ⟨h,zg3 h⟩
 ·by_cases c:a>b
  ·exact .inr<|.inr ⟨c,by rw[zg2 h,zg3 c]⟩
  ·exact .inr<|.inl ⟨oM,by rw[zg2 h,zg2 c]⟩
theorem mw:∀ a b:List Int,ic b a = - ic a b
 | [],[]=>rfl
 | [],_::_=>rfl
 | _::_,[]=>rfl
 | x::a,y::b=>by
  have ih:=mw a b;simp only[ic]
  rcases bA x y with ⟨h,e⟩ | ⟨h,e⟩ | ⟨h,e⟩ <;> rcases bA y x with ⟨c,e'⟩ | ⟨c,e'⟩ | ⟨c,e'⟩ <;> simp[e,e'] <;> omega
theorem Bn:∀ a b:List Int,ic a b=0↔a=b
 | [],[]=>by simp[ic]
 | [],_::_=>by simp[ic]
 | _::_,[]=>by simp[ic]
 | x::a,y::b=>by
  have ih:=Bn a b;simp only[ic]
  rcases bA x y with ⟨h,e⟩ | ⟨h,e⟩ | ⟨h,e⟩
  ·simp[e]; omega
  ·subst h; simp[e,ih]
  ·simp[e]; omega
theorem rK:∀ a b c:List Int,ic a b<0→ic b c<0→ic a c<0
 | [],[],_,h,_=>by simp[ic] at h
 | [],_::_,[],_,h=>by simp[ic] at h
 | [],_::_,_::_,_,_=>by simp[ic]
 | _::_,[],_,h,_=>by simp[ic] at h
 | _::_,_::_,[],_,h=>by simp[ic] at h
 | x::a,y::b,z::c,g,i=>by
  have ih:=rK a b c;simp only[ic] at g i ⊢
  rcases bA x y with ⟨h,e⟩ | ⟨h,e⟩ | ⟨h,e⟩ <;> rcases bA y z with ⟨j,e'⟩ | ⟨j,e'⟩ | ⟨j,e'⟩ <;> rcases bA x z with ⟨f,d⟩ | ⟨f,d⟩ | ⟨f,d⟩ <;> simp[e,e',d] at g i ⊢ <;> first | omega | exact ih g i
theorem je (a b:List Int):ar b a = - ar a b:=by
 have d:=mw a b;unfold ar
 rcases bA a.length b.length with ⟨h,e⟩ | ⟨h,e⟩ | ⟨h,e⟩ <;> rcases bA b.length a.length with ⟨c,e'⟩ | ⟨c,e'⟩ | ⟨c,e'⟩ <;> simp[e,e'] <;> omega
theorem pX (a b:List Int):ar a b=0↔a=b:=by
 have d:=Bn a b;unfold ar
 rcases bA a.length b.length with ⟨h,e⟩ | ⟨h,e⟩ | ⟨h,e⟩
 ·simp[e]; intro c; rw[c] at h; omega
 ·simp[e,d]
 ·simp[e]; intro c; rw[c] at h; omega
theorem eP (a b c:List Int)(g:ar a b<0)(i:ar b c<0):ar a c<0:=by
 have ih:=rK a b c;unfold ar at *
 rcases bA a.length b.length with ⟨h,e⟩ | ⟨h,e⟩ | ⟨h,e⟩ <;> rcases bA b.length c.length with ⟨j,e'⟩ | ⟨j,e'⟩ | ⟨j,e'⟩ <;> rcases bA a.length c.length with ⟨f,d⟩ | ⟨f,d⟩ | ⟨f,d⟩ <;> simp[e,e',d] at g i ⊢ <;> first | omega | exact ih g i
theorem cH (a:List Int):ar a a=0:=(pX a a).2 rfl
theorem dY (a b:List Int):ar a b<0∨a=b∨ar b a<0:=by
 have c:=je a b
 rcases Int.lt_trichotomy (ar a b) 0 with h | h | h
 ·exact .inl h
 ·exact .inr<|.inl<|(pX a b).1 h
 ·exact .inr<|.inr oM
theorem ii (a b c:List Int)(f:¬ ar a b<0)(d:¬ ar b c<0):¬ ar a c<0:=by
 intro e
 rcases dY a b with h | h | h
 ·exact f h
 ·subst h; exact d e
 ·exact d<|eP b a c h e
def tq (l:List (List Int)):Prop:=l.Pairwise fun a b=>¬ ar b a<0
def EC (x:List Int):List (List Int)→List (List Int)
 | []=>[x]
 | y::r=>if ar y x<0 then y::EC x r else x::y::r
def om:List (List Int)→List (List Int)
 | []=>[]
 | x::r=>EC x<|om r
theorem oI (x:List Int):∀ l,(EC x l).Perm (x::l)
 | []=>.refl _
 | y::r=>by
  unfold EC;split
  ·exact ((oI x r).cons y).trans<|.swap x y r
  ·exact .refl _
theorem iX:∀ l,(om l).Perm l
 | []=>.refl _
 | x::r=>(oI x<|om r).trans<|(iX r).cons x
theorem yj (x:List Int):∀ {l},tq l→tq (EC x l)
 | [],_=>List.pairwise_singleton _ _
 | y::r,h=>by
  obtain ⟨b,c⟩:=zk5.1 h;unfold EC;split
  ·rename_i a;refine zk5.2 ⟨fun z hz=>?_,yj x c⟩
   rcases zf3.1 ((oI x r).subset hz) with rfl | hz
   ·intro d; have:=eP y z y a d; rw[cH] at this; omega
   ·exact b z hz
  ·rename_i a;refine zk5.2 ⟨fun z hz=>?_,h⟩
   rcases zf3.1 hz with rfl | hz
   ·exact a
   ·exact ii z y x (b z hz) a
theorem jI:∀ l,tq (om l)
 | []=>List.Pairwise.nil
 | x::r=>yj x<|jI r
theorem pd:∀ {l m:List (List Int)},tq l→tq m→l.Perm m→l=m
 | [],m,_,_,h=>(List.nil_perm.1 h).symm
 | x::l,[],_,_,h=>by have:=h.length_eq; simp at this
 | x::l,y::m,hl,hm,h=>by
  obtain ⟨f,g⟩:=zk5.1 hl;obtain ⟨i,j⟩:=zk5.1 hm;have b:x=y:=by
   have c:x∈y::m:=h.subset (by simp);have d:y∈x::l:=h.symm.subset (by simp)
   rcases zf3.1 c with e | c
   ·exact e
   ·rcases zf3.1 d with e | d
    ·exact e.symm
    ·rcases dY x y with a | a | a
     ·exact absurd a<|i x c
     ·exact a
     ·exact absurd a<|f y d
  subst b;rw[pd g j<|h.cons_inv]
open Go Go.Sy Go.Pl Go.Proofs Go.Shelf Go.Sort
def Tryz.sortF_ren:Ren :=
 {
  f:=fun x =>
   match x with
   | 6=>135
   | 15=>156
   | 14=>189
   | 28=>209
   | 29=>210
   | 20=>244
   | 21=>245
   | 22=>246
   | 23=>247
   | 24=>248
   | 25=>249
   | 26=>250
   | 27=>251
   | 46=>279
   | 47=>259
   | 48=>260
   | 49=>280
   | 50=>281
   | 57=>297
   | n=>n,
  t:=fun x =>
   match x with
   | 22=>22
   | 24=>52
   | 25=>186
   | 3=>3
   | 39=>203
   | 0=>0
   | 53=>239
   | 55=>145
   | 4=>4
   | 46=>233
   | 45=>232
   | 50=>149
   | 5=>5
   | 9=>9
   | 66=>270
   | 70=>274
   | 76=>292
   | 77=>293
   | n=>n,
  g:=fun x =>
   have n:=x;
   n }
theorem Tryz.sortF:SlLaysF.n6 Tryz.prog Tryz.sortF_ren :=
  {
  mixed:=Eq.refl true,
  f6 :=
   Exists.intro "slices.SortFunc[[][]int,[]int]"
    ⟨zg5 (id (Eq.refl true)),
     zb8 func135
      (ze4 some
       kR)⟩,
  f14 :=
   Exists.intro "slices.pdqsortCmpFunc[[]int]"
    ⟨zg5 (id (Eq.refl true)),
     zb8 func189
      (ze4 some
       kR)⟩,
  f15:=zb8 func156<|ze4 some kR,
  f20 :=
   Exists.intro "slices.insertionSortCmpFunc[[]int]"
    ⟨zg5 (id (Eq.refl true)),
     zb8 func244
      (ze4 some
       kR)⟩,
  f21 :=
   Exists.intro "slices.heapSortCmpFunc[[]int]"
    ⟨zg5 (id (Eq.refl true)),
     zb8 func245
      (ze4 some
       kR)⟩,
  f22 :=
   Exists.intro "slices.breakPatternsCmpFunc[[]int]"
    ⟨zg5 (id (Eq.refl true)),
     zb8 func246
      (ze4 some
       kR)⟩,
  f23 :=
   Exists.intro "slices.choosePivotCmpFunc[[]int]"
    ⟨zg5 (id (Eq.refl true)),
     zb8 func247
      (ze4 some
       kR)⟩,
  f24 :=
   Exists.intro "slices.reverseRangeCmpFunc[[]int]"
    ⟨zg5 (id (Eq.refl true)),
     zb8 func248
      (ze4 some
       kR)⟩,
  f25 :=
   Exists.intro "slices.partialInsertionSortCmpFunc[[]int]"
    ⟨zg5 (id (Eq.refl true)),
     zb8 func249
      (ze4 some
       kR)⟩,
  f26 :=
   Exists.intro "slices.partitionEqualCmpFunc[[]int]"
    ⟨zg5 (id (Eq.refl true)),
     zb8 func250
      (ze4 some
       kR)⟩,
  f27 :=
   Exists.intro "slices.partitionCmpFunc[[]int]"
    ⟨zg5 (id (Eq.refl true)),
     zb8 func251
      (ze4 some
       kR)⟩,
  f28:=zb8 func209<|ze4 some kR,
  f29:=zb8 func210<|ze4 some kR,
  f46 :=
   Exists.intro "slices.siftDownCmpFunc[[]int]"
    ⟨zg5 (id (Eq.refl true)),
     zb8 func279
      (ze4 some
       kR)⟩,
  f47:=zb8 func259<|ze4 some kR,
  f48:=zb8 func260<|ze4 some kR,
  f49 :=
   Exists.intro "slices.medianAdjacentCmpFunc[[]int]"
    ⟨zg5 (id (Eq.refl true)),
     zb8 func280
      (ze4 some
       kR)⟩,
  f50 :=
   Exists.intro "slices.medianCmpFunc[[]int]"
    ⟨zg5 (id (Eq.refl true)),
     zb8 func281
      (ze4 some
       kR)⟩,
  f57 :=
   Exists.intro "slices.order2CmpFunc[[]int]"
    ⟨zg5 (id (Eq.refl true)),
     zb8 func297
      (ze4 some
       kR)⟩,
  t0:=uT0,a0:=isAgg0,z0:=sizeOf0,v0:=zl6,t3:=uT3,
  a3:=iT3,z3:=zT3,v3:=zm4,t4:=uT4,a4:=isAgg4,
  z4:=zT4,v4:=zl5,t5:=uT5,a5:=isAgg5,z5:=sizeOf5,
  v5:=zeroValue5,t9:=uT9,a9:=isAgg9,z9:=sizeOf9,v9:=zeroValue9,
  t22:=eL,a22:=isAgg22,z22:=sizeOf22,v22:=zeroValue22,a24:=hZ,
  z24:=fY,t25:=underlying186,a25:=isAgg186,z25:=sizeOf186,
  v25:=zeroValue186,t39:=jN,a39:=isAgg203,z39:=sizeOf203,
  v39:=zeroValue203,t45:=underlying232,a45:=isAgg232,z45:=sizeOf232,
  v45:=zeroValue232,t46:=underlying233,a46:=isAgg233,z46:=sizeOf233,
  v46:=zeroValue233,t50:=underlying149,a50:=isAgg149,z50:=sizeOf149,
  v50:=zeroValue149,t53:=underlying239,a53:=isAgg239,z53:=sizeOf239,
  v53:=zeroValue239,t55:=nj,a55:=isAgg145,z55:=sizeOf145,
  v55:=zeroValue145,t66:=underlying270,a66:=isAgg270,z66:=sizeOf270,
  v66:=zeroValue270,t70:=underlying274,a70:=isAgg274,z70:=sizeOf274,
  v70:=zeroValue274,t76:=underlying292,a76:=isAgg292,z76:=sizeOf292,
  v76:=zeroValue292,t77:=underlying293,a77:=isAgg293,z77:=sizeOf293,
  v77:=zeroValue293 }
structure LV (g:PH) where
 sv:Sv
 l:List Int
 h:dU g l sv
 len:l.length<1099511627776
def LV.val {g:PH}(x:LV g):Value:=.slice x.sv.p x.sv.n x.sv.c
def lk (g:PH):Enc (LV g) 1:=⟨fun x=>[x.val],fun _=>rfl,fun _ u hu=>by simp at hu; subst hu; rfl,by decide⟩
instance (g:PH):Inhabited (LV g):=⟨⟨⟨none,0,0⟩,[],zc1 g 1,by decide⟩⟩
theorem Bi {g:PH}(l:List (LV g)):l.flatMap (lk g).enc=l.map LV.val:=by
 induction l with
 | nil=>rfl
 | cons a t ih=>simp only[zh7,zg6,ih]; rfl
def xy (W:World):PH:=fun b=>W.heap[b]?
theorem Ew (W:World):At W (xy W) [] W:=⟨rfl,⟨rfl,Nat.le_refl _⟩,rfl,fun _ _ h=>h,by simp,by simp,List.Pairwise.nil⟩
theorem yO {W w':World}(h:At W (xy W) [] w'):∃ q os',w'=grow (W.drewN q) os':=by
 refine⟨w'.drawn - W.drawn,w'.heap.extract W.heap.size,?_⟩;have a:∀ k,k<W.heap.size→w'.heap[k]?=W.heap[k]?:=fun k c=>by
  rw[h.known k W.heap[k] (by simp[xy,c]),Array.getElem?_eq_getElem c]
 have i:W.heap.size≤w'.heap.size:=by
  rcases Nat.eq_zero_or_pos W.heap.size with j | j
  ·omega
  ·have:=a (W.heap.size - 1) oM;rw[Array.getElem?_eq_getElem (xs:=W.heap) oM] at this;have:=(Array.getElem?_eq_some_iff.1 this).1;omega
 have b:w'.heap=W.heap++w'.heap.extract W.heap.size:=by
  apply Array.ext_getElem?;intro k;rw[Array.getElem?_append];split
  ·exact a k (by assumption)
  ·rename_i c;rw[Array.getElem?_extract];by_cases l:k<w'.heap.size
   ·rw[zg3 oM]; congr 1; omega
   ·rw[zg2 oM,Array.getElem?_eq_none oM]
 obtain ⟨o,tp,dr,m,ou⟩:=w';have e:=h.os; have f:=h.tape; have g:=h.output;simp only at e f g b;simp only[grow,World.drewN];obtain ⟨d,n⟩:=f;subst e; subst d; subst g;congr 1;omega
theorem Fs {E:World}{g:PH}{s:Own}{l:List (LV g)}{w:World}{b off:Nat}(j:At E g s w)(hb:g b=none):CmpLays1 Tryz.prog 136 #[] (LV.val (g:=g)) (fun x y=>ar x.l y.l) b off l.toArray.size w:=by
 intro m os dk q x y;have a:Le g (xy<|sortWorld LV.val w b off m dk os):=fun k o c=>by
  have n:=j.known k o c;have d:=j.lt c;have f:b≠k:=fun e=>by rw[e] at hb; rw[hb] at c; cases c
  show (grow (putRow LV.val (Sort.ahead w m) b off dk) os).heap[k]?=some o;rw[heap_grow_old _ _ (by simpa using d)];simp[putRow,mapBlock,Sort.ahead,Array.getElem?_modify,f,n]
 have p:=lm (sortWorld LV.val w b off m dk os) (xy _) [] x.val y.val x.l y.l (za5 x.h a) (za5 y.h a) x.len _ (Ew _);refine p.mono ?_;rintro e w' ⟨v',g',s',rfl,i,rfl,rfl,rfl⟩;exact⟨I,yO i⟩
theorem wB (E:World)(g:PH)(s:Own)(v:Value)(l:List (LV g))(V:0<l.length)(hl:l.length<1099511627776) :
  Ctr Tryz.prog E 135 #[v,.func (.func 136) #[] #[]] g (rowA (lk g) 52 v l::s) (fun _ g' s'=>g=g'∧∃ l':List (LV g),l'.Perm l∧l'.map LV.l=om (l.map LV.l)∧s'=rowA (lk g) 52 v l'::s):=by
 intro w D;obtain ⟨h,q⟩:=gX (i:=0) D rfl
 rcases q with ⟨p,rfl,hn⟩ | ⟨b,cap,c,rfl,hb,O,F,G,P⟩
 ·omega
 ·have H:=D.fresh _ (by simp:rowA (lk g) 52 (.slice (some ⟨b,0,none⟩) l.length<|cap+1) l∈_) b rfl;have d:=(Array.getElem?_eq_some_iff.1 hb).1;have J:c.toList.take l.length=l.map LV.val:=by rw[← Bi]; simpa using P
  have Q:Holds LV.val w b 0 l.toArray:=by
   intro j o;have r:j<l.length:=by simpa using o
   refine⟨?_,by simp[World.frozen?,hb]⟩;have h:(c.toList.take l.length)[j]?=(l.map LV.val)[j]?:=by rw[J]
   rw[List.getElem?_take_of_lt r] at h;simp only[World.cell?,hb,Nat.zero_add];simp only[Option.isSome_none,Bool.false_eq_true,if_false];rw[← Array.getElem?_toList,h];simp[r]
  have t:SWO (ltOf fun x y:LV g=>ar x.l y.l):=⟨fun x=>by simp[ltOf,cH],fun x y z h q=>by simp[ltOf] at *; exact eP _ _ _ h q,fun x y z h q=>by
   simp only[ltOf,decide_eq_false_iff_not] at *; exact ii _ _ _ h q⟩
  refine (Any.slices_SortFunc Tryz.sortF LV.val (fun _=>I) (fun x y:LV g=>ar x.l y.l) t 136 #[] b 0 (cap+1) l.toArray w call136 (Fs D H.1) Q d (by simp; omega)).mono ?_;rintro e w' ⟨rfl,d',n,os,N,K,rfl⟩;obtain ⟨d'⟩:=d';have m:d'.length=l.length:=by have:=N.1; simpa using this
  have a:d'.Perm l:=by
   have f:=N.2.2;simp only[List.size_toArray,List.extract_toArray] at f;simpa [List.extract_eq_take_drop,m,tL<|Nat.le_of_eq m] using f
  have u:tq (d'.map LV.l):=by
   rw[tq,zk6,zd1];intro i j R o L;have f:=K i j (zf8 _) L (by simp; omega);simp only[ltOf,decide_eq_false_iff_not] at f;simpa [R,o] using f
  have A:d'.map LV.l=om (l.map LV.l):=pd u (jI _)<|(a.map _).trans (iX _).symm;refine⟨_,g,rowA (lk g) 52 (.slice (some ⟨b,0,none⟩) l.length<|cap+1) d'::s,I,?_,I,d',a,A,I⟩;have f:(sortWorld LV.val w b 0 n d'.toArray os).heap[b]?=some (.cells (putCells LV.val 0 d'.toArray c) 52 (0,0)):=by
   show (grow (putRow LV.val (Sort.ahead w n) b 0 d'.toArray) os).heap[b]?=_;rw[heap_grow_old _ _ (by simpa using d)];simp[putRow,mapBlock,Sort.ahead,Array.getElem?_modify,hb,onCells]
  have S:=D.turn (i:=0) (w':=sortWorld LV.val w b 0 n d'.toArray os) (e':=rowA (lk g) 52 (.slice (some ⟨b,0,none⟩) l.length (cap+1)) d') rfl rfl ⟨rfl,Nat.le_add_right _ _⟩ rfl (by simp[sortWorld,grow,putRow,mapBlock,Sort.ahead]) (fun k U M=>by
    have B:b≠k:=fun e=>M (by rw[e]; rfl);show (grow (putRow LV.val (Sort.ahead w n) b 0 d'.toArray) os).heap[k]?=_;rw[heap_grow_old _ _ (by simpa using U)];simp[putRow,mapBlock,Sort.ahead,Array.getElem?_modify,B]) (by
    have:=ei (w:=sortWorld LV.val w b 0 n d'.toArray os) (T:=52) (k:=1) (n:=d'.length) (b:=b) (cap:=cap) (xs:=d'.flatMap (lk g).enc) (by rw[(lk g).length]) f oM F (by simp[putCells]; simpa using G) (by
     rw[Bi,Nat.mul_one];apply List.ext_getElem?;intro j;by_cases o:j<d'.length
     ·rw[List.getElem?_take_of_lt o,Array.getElem?_toList];simp[putCells,o,show j<c.size by omega]
     ·rw[List.getElem?_take_eq_none oM,List.getElem?_eq_none (by simp; omega)])
    rw[show rowA (lk g) 52 (.slice (some ⟨b,0,none⟩) l.length (cap+1)) d'=row 52 1 (.slice (some ⟨b,0,none⟩) d'.length (cap+1)) d'.length (d'.flatMap (lk g).enc) by simp only[rowA,m]];exact this) (fun b' C=>by
    simp only[rowA,row,nA,zg9] at C;subst C;exact⟨(Array.getElem?_eq_some_iff.1 f).1,.inl I⟩)
  exact S
end Go.Proofs.YtbbppeihhkhkcaaGreatDoor
