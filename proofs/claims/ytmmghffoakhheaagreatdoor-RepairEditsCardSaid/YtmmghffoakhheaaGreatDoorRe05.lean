/- 5 -/
import Derived.Test.YtmmghffoakhheaaGreatDoorRe04
import Derived.Shelf.SlSortCmp.Whole1
import Derived.Shelf.SlIterI.Sorted
set_option linter.unusedSimpArgs false
set_option linter.unusedVariables false
namespace Go.Proofs.YtmmghffoakhheaaGreatDoor
open _root_.Go.Proofs.Tryz _root_.Go.Proofs.YtmmghffoakhheaaGreatDoor.Tryz
open Go Go.Sy Go.Pl Go.Proofs
set_option maxRecDepth 100000
def aV (tl:List Cl)(x:Side):List Side:=((ao tl x.cell).getD bg).sides
def tG (x:Side)(zl:List (Int×Int))(r:Side):List (Int×Int):=j3 zl r.cell (x.sign * r.sign)
def fY (i:Int)(ml:List (Int×List Int))(r:Side):List (Int×List Int):=gH ml r.cell i
def ly (tl:List Cl)(l:List Side):List (Int×Int):=l.foldl (fun zl x=>(aV tl x).foldl (tG x) zl) []
def iX (tl:List Cl)(l:List Side):List (Int×List Int):=l.zipIdx.foldl (fun ml p=>(aV tl p.1).foldl (fY p.2) ml) []
def kQ (jl:List (Int×List Int))(p:Int×List Int):List (Int×List Int):=match p.2 with
 | [a,b]=>gH (gH jl a b) b a
 | _=>jl
def eu (ml:List (Int×List Int)):List (Int×List Int):=ml.foldl kQ []
def mn (jl:List (Int×List Int)):List Int:=dfs (kg jl) (jl.length+1) 0 []
def cH (tl:List Cl)(c:Cl):Int :=
 if (ly tl c.sides).any (fun p=>decide (p.2≠0)) then 24
 else if (iX tl c.sides).any (fun p=>decide ((p.2.length:Int)≠2)) then 25
 else if ((mn<|eu<|iX tl c.sides).length:Int)≠c.sides.length then 25 else 0
def AOk (tl:List Cl)(c:Cl):Prop:=c.sides.length≤64∧(∀ x∈c.sides,x.sign=1∨x.sign = -1)∧∀ x∈c.sides,(aV tl x).length≤64∧∀ r∈aV tl x,r.sign=1∨r.sign = -1
theorem xf {tl:List Cl}{l:List Side}{x:Side}:ly tl (l++[x])=(aV tl x).foldl (tG x) (ly tl l):=by
 simp[ly,zi8]
theorem Ae {tl:List Cl}{l:List Side}{x:Side}:iX tl (l++[x])=(aV tl x).foldl (fY l.length) (iX tl l):=by
 simp[iX,List.zipIdx_append,zi8]
theorem wj {a b:Int}(ha:a=1∨a = -1)(hb:b=1∨b = -1):a * b=1∨a * b = -1:=by
 rcases ha with rfl | rfl <;> rcases hb with rfl | rfl <;> decide
theorem AV (ml:List (Int×List Int))(k x:Int):(gH ml k x).map Prod.fst=if ml.any (fun p=>decide (p.1=k)) then ml.map Prod.fst else ml.map Prod.fst++[k]:=by
 induction ml with
 | nil=>rfl
 | cons p r ih =>
  obtain ⟨a,l⟩:=p;simp only[gH];by_cases h:k=a
  ·subst h; simp
  ·have h':¬ a=k:=fun e=>h e.symm;rw[zf9 h];simp only[zg4,ih,List.any_cons,h',decide_false,Bool.false_or];split <;> simp
theorem yh {ml:List (Int×List Int)}(h:(ml.map Prod.fst).Nodup)(k x:Int):((gH ml k x).map Prod.fst).Nodup:=by
 rw[AV];split
 ·exact h
 ·rename_i hk;rw[List.nodup_append];refine⟨h,by simp,fun a ha b hb e=>hk ?_⟩;simp at hb;subst hb;obtain ⟨p,hp,hpe⟩:=zf2.1 ha;rw[zj8];exact⟨p,hp,by simp[hpe,e]⟩
theorem xG (tl:List Cl)(l:List Side):((iX tl l).map Prod.fst).Nodup:=by
 unfold iX;have h2:∀ (q:List (Side×Nat)) (ml:List (Int×List Int)),(ml.map Prod.fst).Nodup→((q.foldl (fun ml p=>(aV tl p.1).foldl (fY p.2) ml) ml).map Prod.fst).Nodup:=by
  intro q;induction q with
  | nil=>intro ml h; exact h
  | cons p t ih =>
   intro ml h;refine ih _ ?_;have h1:∀ (q:List Side) (ml:List (Int×List Int)),(ml.map Prod.fst).Nodup→((q.foldl (fY p.2) ml).map Prod.fst).Nodup:=by
    intro q;induction q with
    | nil=>intro ml h; exact h
    | cons r t ih=>intro ml h; exact ih _<|yh h _ _
   exact h1 _ _ h
 exact h2 _ _ (by simp)
theorem vQ (ml:List (Int×List Int))(k x:Int):(gH ml k x).length≤ml.length+1:=by
 induction ml with
 | nil=>simp[gH]
 | cons p r ih =>
  obtain ⟨a,l⟩:=p;simp only[gH];split <;> simp <;> omega
theorem vk {tl:List Cl}{l:List Side}(h:∀ x∈l,(aV tl x).length≤64):(iX tl l).length≤64 * l.length:=by
 have h2:∀ (q:List (Side×Nat)) (ml:List (Int×List Int)),(∀ p∈q,(aV tl p.1).length≤64)→(q.foldl (fun ml p=>(aV tl p.1).foldl (fY p.2) ml) ml).length≤ml.length+64 * q.length:=by
  intro q;induction q with
  | nil=>intro ml _; simp
  | cons p t ih =>
   intro ml hq;have h1:∀ (q:List Side) (ml:List (Int×List Int)),(q.foldl (fY p.2) ml).length≤ml.length+q.length:=by
    intro q;induction q with
    | nil=>intro ml; simp
    | cons r t ih =>
     intro ml;have h3:=ih<|fY p.2 ml r;have h4:=vQ ml r.cell p.2;simp only[zi7,ze8];unfold fY at h3 ⊢;omega
   have h5:=ih ((aV tl p.1).foldl (fY p.2) ml) (fun p hp=>hq p<|by simp[hp]);have h6:=h1 (aV tl p.1) ml;have h7:=hq p (by simp);simp only[zi7,ze8];omega
 have:=h2 l.zipIdx [] (fun p hp=>h p.1 (by
  obtain ⟨a,i⟩:=p;exact (List.mem_zipIdx hp).2.2 ▸ gM _))
 simpa [iX] using this
theorem uY {α:Type}(f:α→Int){vt ms:List α}(hs:∀ t∈vt,t∈ms)(hp:(vt.map f).Perm (ms.map f))(hn:(ms.map f).Nodup):vt.Perm ms:=by
 have hinj:∀ {l:List α},(l.map f).Nodup→∀ a∈l,∀ b∈l,f a=f b→a=b:=by
  intro l;induction l with
  | nil=>intro _ a ha; simp at ha
  | cons c t ih =>
   intro h a ha b hb e;simp only[zg4,zk3] at h
   rcases zf1.1 ha with rfl | ha' <;> rcases zf1.1 hb with rfl | hb'
   ·rfl
   ·exact absurd (zf2.2 ⟨b,hb',e.symm⟩) h.1
   ·exact absurd (zf2.2 ⟨a,ha',e⟩) h.1
   ·exact ih h.2 a ha' b hb' e
 refine (List.perm_ext_iff_of_nodup (List.Pairwise.of_map f (fun a b hab e=>hab<|by rw[e])<|hp.symm.nodup hn)<|List.Pairwise.of_map f (fun a b hab e=>hab<|by rw[e]) hn).2 fun c=>⟨hs c,fun hc=>?_⟩;obtain ⟨c',h1,h2⟩:=zf2.1<|hp.symm.subset<|zf2.2 ⟨c,hc,rfl⟩;rw[← hinj hn c' (hs c' h1) c hc h2];exact h1
theorem BS (jl:List (Int×List Int))(a b x y:Int):y∈jt (gH jl a b) x↔y∈jt jl x∨(x=a∧y=b):=by
 rw[Ay];split
 ·rename_i h; simp[h]
 ·rename_i h; simp[h]
theorem kO (ml:List (Int×List Int))(x y:Int):y∈jt (eu ml) x↔∃ p∈ml,p.2=[x,y]∨p.2=[y,x]:=by
 have key:∀ (q:List (Int×List Int)) (jl:List (Int×List Int)),y∈jt (q.foldl kQ jl) x↔y∈jt jl x∨∃ p∈q,p.2=[x,y]∨p.2=[y,x]:=by
  intro q;induction q with
  | nil=>intro jl; simp
  | cons p t ih =>
   intro jl;simp only[zi7,ih];have hp:y∈jt (kQ jl p) x↔y∈jt jl x∨(p.2=[x,y]∨p.2=[y,x]):=by
    obtain ⟨k,l⟩:=p;unfold kQ;dsimp only
    match l with
    | []=>simp
    | [_]=>simp
    | [a,b] =>
     simp only[BS,List.cons.injEq,and_true];constructor
     ·rintro ((h | ⟨h1,h2⟩) | ⟨h1,h2⟩)
      ·exact .inl h
      ·exact .inr<|.inl ⟨h1.symm,h2.symm⟩
      ·exact .inr<|.inr ⟨h2.symm,h1.symm⟩
     ·rintro (h | ⟨h1,h2⟩ | ⟨h1,h2⟩)
      ·exact .inl<|.inl h
      ·exact .inl<|.inr ⟨h1.symm,h2.symm⟩
      ·exact .inr ⟨h2.symm,h1.symm⟩
    | _::_::_::q=>simp
   rw[hp];constructor
   ·rintro ((h | h) | ⟨q,h1,h2⟩)
    ·exact .inl h
    ·exact .inr ⟨p,by simp,h⟩
    ·exact .inr ⟨q,by simp[h1],h2⟩
   ·rintro (h | ⟨q,h1,h2⟩)
    ·exact .inl<|.inl h
    ·rcases zf1.1 h1 with rfl | h1
     ·exact .inl<|.inr h2
     ·exact .inr ⟨q,h1,h2⟩
 unfold eu;rw[key];simp[jt]
theorem zR {a b:List (Int×List Int)}(h:a.Perm b):(mn<|eu a).length=(mn<|eu b).length:=by
 have hr:∀ (a b:List (Int×List Int)),a.Perm b→∀ x,Rch (kg<|eu a) 0 x→Rch (kg<|eu b) 0 x:=by
  intro a b h x hx;refine hx.mono (fun u l hl y hy=>⟨_,I,?_⟩) (fun _ _=>by simp[kg]);simp only[kg,zg7] at hl;subst hl;rw[kO] at hy ⊢;obtain ⟨p,hp,h2⟩:=hy;exact⟨p,h.subset hp,h2⟩
 have hc:∀ jl:List (Int×List Int),o0 jl []<jl.length+1:=fun jl=>Nat.lt_succ_of_le<|zc5 _ _;have hmem:∀ (q:List (Int×List Int)) (x:Int),x∈mn (eu q)↔Rch (kg<|eu q) 0 x:=fun q x=>yY (cnt:=o0<|eu q) (fun v v' h=>lg h) (oH _) (hc _) (by simp[kg]) x;refine List.Perm.length_eq ((List.perm_ext_iff_of_nodup (lf _ _ _ _<|by simp)<|lf _ _ _ _<|by simp).2 fun x=>?_);exact (hmem a x).trans<|Iff.trans ⟨hr a b h x,hr b a h.symm x⟩ (hmem b x).symm
theorem vN (E:World)(g:PH)(s:Own)(v:Value)(tl:List Cl)(c:Cl)(r:Rc)(hv:Tab g v tl)(hc:ay g c r)(hok:AOk tl c) :
  Ctr Tryz.prog E 52 #[v,rcv r] g s (fun r g' s'=>r=vi (cH tl c)∧g=g'∧s=s'):=by
 obtain ⟨b,mt,iv,rs,rfl,hb,hm,hI,hall⟩:=hv;obtain ⟨ri,rd,rp,rn,rcap⟩:=r;have hcs:SlA encSide g (.slice rp rn rcap) c.sides:=hc.2.2;have hrn:rn=c.sides.length:=zc1 hcs;have hrd:rd=c.dim:=hc.2.1;subst hrn hrd;obtain ⟨hn64,hsg,hin⟩:=hok;have hx0:=fun h=>hcs.based h;refine zb1 (args:=[pp b 0,rcv ⟨ri,c.dim,rp,c.sides.length,rcap⟩]) func52 I ntmps52 (bE I)<|rZ (bW (bO I) fun b3=>?_);refine aT I<|rZ<|lW (SO.mkMap) ?_;rintro _ _ _ ⟨mz,rfl,rfl,rfl⟩;refine lW (SO.mkMap) ?_;rintro _ _ _ ⟨mm,rfl,rfl,rfl⟩;refine lA I<|aT I<|SC.cut (ι:=List (Int×Int)×Ms) (fun _=>[(3,pp b3 0),(5,.map<|some mz),(6,.map<|some mm)]) (fun _=>g) (fun q=>mp mm (jq q.2)::mp mz (rM q.1)::pt b3 (.cells #[vi ri,vi c.dim,.slice rp c.sides.length rcap] 54 (0,0))::(fz q.2++s))
  (fun q=>q.1=ly tl c.sides∧gF q.2=iX tl c.sides∧∀ t∈q.2,t.2.2.length≤4096) ?_ ?_
 ·refine rZ<|lU (fA aw I aO I)<|lK (qL bh I<|cO 2 I I)<|lU (eN aI I)<|lM I<|tZ<|bK<|SC.loop (ι:=Nat×List (Int×Int)×Ms) (fun q=>[(0,pp b 0),(3,pp b3 0),(5,.map<|some mz),(6,.map<|some mm),(21,.slice rp c.sides.length rcap),(22,vi c.sides.length),(23,vi q.1)]) (fun _=>g)
   (fun q=>mp mm (jq q.2.2)::mp mz (rM q.2.1)::pt b3 (.cells #[vi ri,vi c.dim,.slice rp c.sides.length rcap] 54 (0,0))::(fz q.2.2++s))
   (fun q=>q.1≤c.sides.length∧q.2.1=ly tl (c.sides.take q.1)∧gF q.2.2=iX tl (c.sides.take q.1)∧(∀ p∈q.2.1,-((64 * q.1:Nat):Int)≤p.2∧p.2≤((64 * q.1:Nat):Int))∧∀ t∈q.2.2,t.2.2.length≤64 * q.1) (fun q=>c.sides.length - q.1)
   (0,[],[]) sB rfl rfl ⟨zf6 _,by simp[ly],by simp[iX,gF],by simp,by simp⟩ ?_
  rintro ⟨k,zl0,ms0⟩ ⟨hk,hz0,hm0,hzb0,hmb0⟩;dsimp only at hk hz0 hm0 hzb0 hmb0 ⊢;refine rZ<|yL I<|tZ<|sQ<|iP I (fun hlt=>?_) (fun hlt=>?_)
  ·have hkl:k<c.sides.length:=oM;have hb1:=hx0 oM;have hjx:c.sides[((k:Nat):Int).toNat]?=some c.sides[k]:=gE hkl;have htk:c.sides.take (k+1)=c.sides.take k++[c.sides[k]]:=tS hkl;have hmy:c.sides[k]∈c.sides:=gM hkl;have htkl:(c.sides.take k).length=k:=by simp; omega
   generalize c.sides[k]=y at *;obtain ⟨x,hx1,hx2,hx3⟩:=tB hall yw y.cell;obtain ⟨xi,xd,xp,xn,xc⟩:=x;have hxs:SlA encSide g (.slice xp xn xc) (aV tl y):=hx3.2.2;have hxn:xn=(aV tl y).length:=zc1 hxs;subst hxn;have hysg:=hsg y hmy;obtain ⟨hyl,hyr⟩:=hin y hmy;generalize hsy:aV tl y=sy at hxs hyl hyr;refine kP (tN<|sQ<|bK<|sW I<|lU (iA aI aB I I hb1 oM sL)<|lK (eA dT aB I hcs.rd hjx)<|bW (aL zl4) fun b8=>?_);refine lA I<|oZ (sK 0 aB I I I I I sB)<|tZ<|sQ<|dW [] [(0,2),(1,2),(2,2),(3,1),(4,2),(5,1),(6,1),(7,2),(8,2),(9,2)] ze3 kR<|yM I<|pU I (nC I)<|pU I (fA nr I ec I)<|pK I (qL ee I<|cK hb I)<|pU I (fA co I zT3 I)<|pK I (qL iT3 I<|cO 0 I I)<|pK I (SQ.eq (v':=rcv ⟨xi,xd,xp,sy.length,xc⟩) (SQ.lookup mty125 I I<|bo.known hm)<|by rw[hx1,hsy]) ?_;refine pU I (SU.field aw I bh I I)<|pU I (eN aI I)<|yM I<|pN<|tN<|bK ?_;refine SC.loop (ι:=Nat×List (Int×Int)×Ms) (fun q=>[(0,pp b 0),(3,pp b3 0),(5,.map<|some mz),(6,.map<|some mm),(7,vi k),(8,pp b8 0),(21,.slice rp c.sides.length rcap),(22,vi c.sides.length),(23,vi k),(35,.slice xp sy.length xc),(36,vi sy.length),(37,vi q.1)]) (fun _=>g)
    (fun q=>pt b8 (.cells #[vi y.cell,vi y.sign] 56 (0,0))::mp mm (jq q.2.2)::mp mz (rM q.2.1)::pt b3 (.cells #[vi ri,vi c.dim,.slice rp c.sides.length rcap] 54 (0,0))::(fz q.2.2++s))
    (fun q=>q.1≤sy.length∧q.2.1=(sy.take q.1).foldl (tG y) zl0∧gF q.2.2=(sy.take q.1).foldl (fY k) (iX tl<|c.sides.take k)∧(∀ p∈q.2.1,-((64 * k+q.1:Nat):Int)≤p.2∧p.2≤((64 * k+q.1:Nat):Int))∧∀ t∈q.2.2,t.2.2.length≤64 * k+q.1) (fun q=>sy.length - q.1)
    (0,zl0,ms0) sB rfl rfl ⟨zf6 _,by simp,by simp[hm0],by simpa using hzb0,by simpa using hmb0⟩ ?_
   rintro ⟨j,zl,ms⟩ ⟨hj,hz,hmm,hzb,hmb⟩;dsimp only at hj hz hmm hzb hmb ⊢;refine rZ<|yL I<|tZ<|sQ<|iP I (fun hlt2=>?_) (fun hlt2=>?_)
   ·have hjl:j<sy.length:=oM;have hb2:=hxs.based oM;have hjx2:sy[((j:Nat):Int).toNat]?=some sy[j]:=gE hjl;have htj:sy.take (j+1)=sy.take j++[sy[j]]:=tS hjl;have hrsg:=hyr _ (gM hjl);generalize sy[j]=z at *;obtain ⟨ms',j0,u,lu,hp1,hp2,hp3,hp4,hp6,hp5⟩:=ED ms z.cell;have hmb':=hp6 _ hmb;have hlu:=hmb' _ (zg2 hp1);dsimp only at hlu;have hgb:=xQ oM hzb z.cell;have hpr:=wj hysg hrsg;refine SC.to (fun w hw=>hp5 E g [pt b8 (.cells #[vi y.cell,vi y.sign] 56 (0,0)),mp mm (jq ms),mp mz (rM zl),pt b3 (.cells #[vi ri,vi c.dim,.slice rp c.sides.length rcap] 54 (0,0))] s w hw) ?_;refine kP (tN (sQ (bK (rZ (lU (iA aI aB I I hb2 oM sL) (lK (eA dT aB I hxs.rd hjx2) (bW (aL zl4) fun b10=>?_)))))));refine oZ (sK 0 aB I I I I I sB)<|tZ (sW I (lU (fA co I zT3 I) (lK (qL iT3 I (cO 0 I I)) (lK (SQ.eq (v':=vi (uk zl z.cell)) (SQ.lookup mty70 I I (bo.own 3 I)) (B7 zl _)) (lU (fA co I zT3 I) (lK (qL iT3 I (cO 1 I I)) (lU (fA co I zT3 I) (lK (qL iT3 I (cO 0 I I)) (lU (SU.mul (m:=y.sign) (n:=z.sign) I I oM) (lU (aD (m:=uk zl z.cell) (n:=y.sign * z.sign) I I oM) (lO (SO.mapUpdate 3 mty70 I I I I) ?_)))))))))));rintro _ _ _ ⟨rfl,rfl⟩;rw[Cx];refine tZ<|SC.drawT 5 [10] [(0,2),(1,2),(2,1),(3,2),(4,2),(5,1),(6,1),(7,2),(8,0),(9,0),(10,0)] ze3 kR<|yM rfl (pU rfl (fA co rfl zT3 rfl) (pK rfl (qL iT3 rfl (cO 0 rfl rfl)) (yM rfl (pU rfl (fA co rfl zT3 rfl) (pK rfl (qL iT3 rfl (cO 0 rfl rfl)) (pK rfl (SQ.eq (SQ.lookup mty69 rfl rfl (bo.own 2 rfl)) hp2) (yM rfl (SP.o rfl (bS sty22 rfl rfl rfl (ab sB) dC) dC (.inr (by rintro _ _ _ ⟨b59,rfl,rfl,rfl⟩; exact⟨by exact zb8 _,(by exact .cons _ (List.take_sublist _ _))⟩)) ?_))))))));rintro _ _ _ ⟨b59,rfl,rfl,rfl⟩;refine SP.o I (SO.app1 (j0+5) ((lu++[(k:Int)]).flatMap ae.enc) (lu++[(k:Int)]).length sty22 I I I (qZ hp1 s) I ⟨I,trivial⟩ (by simp[ae]; rfl) (by simp) lN lN) dC (.inr (by rintro u' _ _ ⟨rfl,rfl⟩; exact⟨by exact zb8 _,(by exact eH _ _ _ _)⟩)) ?_;rintro u' _ _ ⟨rfl,rfl⟩;refine SP.on I (SO.mapUpdate 2 mty69 I I I I) (.inl dC) ?_;rintro _ _ _ ⟨rfl,rfl⟩;refine pN (bN (tN (rG (yD I (lM I (nL ?_))))));refine dR (s':=pt b8 (.cells #[vi y.cell,vi y.sign] 56 (0,0))::mp mm (jq (ms'.set j0 (z.cell,u',lu++[(k:Int)])))::mp mz (rM (j3 zl z.cell (y.sign * z.sign)))::pt b3 (.cells #[vi ri,vi c.dim,.slice rp c.sides.length rcap] 54 (0,0))::(fz (ms'.set j0 (z.cell,u',lu++[(k:Int)]))++s)) (by
     rw[← hp3 u' k,← qY (v':=u') (l':=lu++[(k:Int)]) hp1 s];exact .cons _ (.refl _)) ?_
    exact ST.again (j+1,j3 zl z.cell (y.sign * z.sign),ms'.set j0 (z.cell,u',lu++[(k:Int)])) sB I I ⟨lN,by rw[htj,zi8,← hz]; rfl,by rw[htj,zi8,← hmm,hp4]; rfl,by
      have:=yg oM hzb z.cell (x:=y.sign * z.sign) oM;intro p hp;have:=this p hp;dsimp only at *;omega,fun t ht=>by
      dsimp only at *
      rcases List.mem_or_eq_of_mem_set ht with h | h
      ·have:=hmb' t h; omega
      ·subst h; simp; omega⟩ lN
   ·refine xI (tX (tX (bX (bN (tN (rG (yD I (lM I (nL ?_)))))))));have hjj:sy.take j=sy:=tL oM;rw[hjj] at hz hmm;refine dR (s':=mp mm (jq ms)::mp mz (rM zl)::pt b3 (.cells #[vi ri,vi c.dim,.slice rp c.sides.length rcap] 54 (0,0))::(fz ms++s)) (.cons _ (.refl _)) ?_;exact ST.again (k+1,zl,ms) sB I I ⟨lN,by rw[htk,xf,hsy,← hz0]; exact hz,by rw[htk,Ae,hsy,htkl]; exact hmm,by
      intro p hp;have:=hzb p hp;dsimp only at *;omega,fun t ht=>by have:=hmb t ht; dsimp only at *; omega⟩ lN
  ·refine xI<|tX<|tX<|bX ?_;have hkk:c.sides.take k=c.sides:=tL oM;rw[hkk] at hz0 hm0;exact za8 (zl0,ms0) sB I I ⟨hz0,hm0,fun t ht=>by have:=hmb0 t ht; omega⟩
 ·rintro ⟨zl,ms⟩ ⟨hz,hmc,hmlen⟩;dsimp only at hz hmc hmlen ⊢;refine cP (zk1 _ _ _) (SC.freezeMap fun g1 hl1 hmz=>?_);refine SC.freezeMap fun g2 hl2 hmm=>?_;refine cP List.perm_middle.symm (SC.freezeRows fun g3 hl3 hrows=>?_);obtain ⟨es1,clk1,hes1,hmi1⟩:=hmz.mono<|hl2.trans hl3;obtain ⟨es2,clk2,hes2,hmi2⟩:=hmm.mono hl3;have hle3:=hl1.trans<|hl2.trans hl3;have hmsl:ms.length≤4096:=by
   have h1:=vk (tl:=tl) (l:=c.sides) (fun x hx=>(hin x hx).1);rw[← hmc] at h1;have h2:(gF ms).length=ms.length:=by simp[gF]
   omega
  refine sQ<|sW I<|lW (SO.range underlying70 I hes1) ?_;rintro _ _ _ ⟨it,rfl,rfl,rfl⟩;refine tZ<|bK<|SC.loop (ι:=List MapEntry×List (Int×Value)) (fun _=>[(3,pp b3 0),(6,.map<|some mm),(64,pp it 0)]) (fun _=>g3)
   (fun q=>eJ it mz es1 clk1 q.1::pt b3 (.cells #[vi ri,vi c.dim,.slice rp c.sides.length rcap] 54 (0,0))::s)
   (fun q=>kL (rM zl) es1 q.1 q.2∧∀ p∈q.2,p.2=vi 0) (fun q=>zl.length - q.2.length) ([],[]) sB rfl rfl ⟨kL.nil _ _,by simp⟩ ?_
  rintro ⟨vis,vl⟩ ⟨hrv,hvz⟩;dsimp only at hrv hvz ⊢;refine rZ<|lW (SO.nextP 0 I I hes1 hmi1 hrv) ?_;rintro _ _ _ ⟨rfl,hcase⟩
  rcases hcase with ⟨rfl,rfl,hperm⟩ | ⟨e,pr,he,hq1,hk1,hv1,hrv2,rfl,rfl⟩
  ·have hz0:(ly tl c.sides).any (fun p=>decide (p.2≠0))=false:=by
    rw[zk6];intro p hp;rw[← hz] at hp;have:=hvz (p.1,vi p.2)<|hperm.symm.subset<|zf2.2 ⟨p,hp,rfl⟩;simpa using this
   refine yX I<|tZ<|sQ<|cF I<|xI<|tX<|tX<|bX<|tN<|sQ<|SC.drop (s':=pt b3 (.cells #[vi ri,vi c.dim,.slice rp c.sides.length rcap] 54 (0,0))::s) (.cons _<|.refl _)<|rG<|lW (SO.mkMap) ?_;rintro _ _ _ ⟨mj,rfl,rfl,rfl⟩;refine bW (aL zeroValue69) fun b13=>oZ (sK 0 sizeOf69 I I I I I sB)<|tZ<|sQ<|sW I<|lW (SO.range underlying69 I hes2) ?_;rintro _ _ _ ⟨it2,rfl,rfl,rfl⟩;refine tZ<|bK<|SC.loop (ι:=List MapEntry×List (Int×Value)×Ms×Ms) (fun _=>[(3,pp b3 0),(13,pp b13 0),(73,pp it2 0)]) (fun _=>g3)
    (fun q=>eJ it2 mm es2 clk2 q.1::pt b13 (.cells #[.map<|some mj] 69 (0,0))::mp mj (jq q.2.2.2)::pt b3 (.cells #[vi ri,vi c.dim,.slice rp c.sides.length rcap] 54 (0,0))::(fz q.2.2.2++s))
    (fun q=>kL (jq ms) es2 q.1 q.2.1∧q.2.1=jq q.2.2.1∧(∀ t∈q.2.2.1,t∈ms∧t.2.2.length=2)∧gF q.2.2.2=eu (gF q.2.2.1)∧∀ t∈q.2.2.2,t.2.2.length≤2 * q.2.2.1.length) (fun q=>ms.length - q.2.1.length) ([],[],[],[]) sB rfl rfl ⟨kL.nil _ _,rfl,by simp,rfl,by simp⟩ ?_
   rintro ⟨vis2,vl2,vt,js⟩ ⟨hrv3,hvl2,hvt,hjs,hjb⟩;dsimp only at hrv3 hvl2 hvt hjs hjb ⊢;have hvtl:vt.length≤ms.length:=by have:=hrv3.len hmi2; rw[hvl2] at this; simpa [jq] using this
   refine rZ<|lW (SO.nextP 0 I I hes2 hmi2 hrv3) ?_;rintro _ _ _ ⟨rfl,hcase2⟩
   rcases hcase2 with ⟨rfl,rfl,hperm2⟩ | ⟨e2,pr2,he2,hq2,hk2,hv2,hrv4,rfl,rfl⟩
   ·have hpm:(gF vt).Perm (iX tl c.sides):=by
     rw[← hmc];have hn:(ms.map fun t=>t.1).Nodup:=by
      have:=xG tl c.sides;rw[← hmc] at this;simpa [gF,zi4,Function.comp_def] using this
     have h1:=hperm2.map Prod.fst;rw[hvl2] at h1;simp only[jq,zi4,Function.comp_def] at h1;exact (uY (fun t=>t.1) (fun t ht=>(hvt t ht).1) h1 hn).map _
    have hreg:(iX tl c.sides).any (fun p=>decide ((p.2.length:Int)≠2))=false:=by
     rw[zk6];intro p hp;obtain ⟨t,ht,rfl⟩:=zf2.1<|hpm.symm.subset hp;have:=(hvt t ht).2;simp[this]
    have hjlen:∀ t∈js,t.2.2.length<1099511627776:=fun t ht=>by
     have h1:=hjb t ht;omega
    refine yX I (tZ<|sQ<|cF I<|xI<|tX<|tX<|bX<|tN<|sQ<|SC.drop (.cons _<|.refl _)<|SC.freeze fun g4 hl4 hb13=>?_);refine SC.freezeMap fun g5 hl5 hmj=>?_;refine cP List.perm_middle.symm (SC.freezeRows fun g6 hl6 hjrows=>?_);refine rG<|lW (SO.mkMap) ?_;rintro _ _ _ ⟨sm,rfl,rfl,rfl⟩;refine bW (aL zeroValue71) fun b16=>oZ (sK 0 sizeOf71 I I I I I ⟨I,trivial⟩) (zb4 fun g7 hl7 hb16=>?_);refine tZ (rZ<|bW (aL zeroValue131) fun b17=>?_);refine tZ (rZ<|lU (SU.mkFunc I)<|oZ (sK 0 sizeOf131 I I I I I ⟨I,trivial⟩)<|zb4 fun g8 hl8 hb17=>?_);refine tZ<|rZ<|lK (qL isAgg131 I<|cK hb17 I)<|lW (SO.callV I I<|cX.mk (cap:=[pp b16 0,pp b13 0,pp b17 0]) call86<|wZ E g8 b16 b13 b17 sm mj js (hmj.mono<|hl6.trans<|hl7.trans hl8) (fun t ht=>(hjrows t ht).mono<|hl7.trans hl8) hjlen (hl8 _ _ hb16) ((hl5.trans<|hl6.trans<|hl7.trans hl8) _ _ hb13) hb17 ((gF js).length+1) 0 [] _ 0 (Nat.lt_succ_of_le<|zc5 _ _) I) ?_;rintro _ _ _ ⟨rfl,rfl⟩;refine tZ<|sQ<|rZ<|lK (qL isAgg71 I<|cK (hl8 _ _ hb16) I)<|lK (SQ.lenMap underlying71 I<|bo.own 0 I)<|lU (fA aw I aO I)<|lK (qL bh I<|cO 1 I I)<|lU (eN aI I)<|lU (nQ I I)<|tZ ?_;have hseen:(mT<|dfs (kg<|gF js) ((gF js).length+1) 0 []).length=(mn<|eu<|iX tl c.sides).length:=by
     rw[← zR hpm,← hjs];simp[mT,mn]
    rw[hseen];have hlast:=hle3.trans<|hl4.trans<|hl5.trans<|hl6.trans<|hl7.trans hl8;refine iP I (fun hne=>?_) (fun hne=>?_)
    ·exact rZ<|aT I<|rE<|tR<|dR (s':=s) (.cons _<|.cons _<|.refl _)<|ST.less hlast<|za7 (.inl I) results52 I ⟨by unfold cH; rw[zf9 (by rw[hz0]; exact Bool.false_ne_true),zf9 (by rw[hreg]; exact Bool.false_ne_true),zg1 hne],I,I⟩
    ·exact kP<|tN<|rZ<|aT I<|rE<|dR (s':=s) (.cons _<|.cons _<|.refl _)<|ST.less hlast<|za7 (.inl I) results52 I ⟨by unfold cH; rw[zf9 (by rw[hz0]; exact Bool.false_ne_true),zf9 (by rw[hreg]; exact Bool.false_ne_true),zf9 hne],I,I⟩
   ·obtain ⟨⟨tk,tv,tl2⟩,ht,rfl⟩:=zf2.1 hq2;have hti:dJ g3 tv tl2:=hrows _ ht;have htl:tl2.length≤4096:=hmlen _ ht;obtain ⟨tp,tc,rfl⟩:=za3 hti;refine yX I<|tZ<|sQ<|za1 I<|kP<|tN<|bK<|rZ<|lK (SQ.entryP 0 I I hes2 hmi2 he2 hk2 hv2)<|yX I<|aT I<|sQ<|sW I<|lU (eN aG I)<|lU (nQ I I)<|tZ<|iP I (fun hne2=>?_) (fun hne2=>?_)
    ·refine rZ<|aT I<|rE<|tR<|bR<|tR<|bR<|tR<|dR (s':=s) (.cons _<|.cons _<|.cons _<|.cons _<|zi9 _ _)<|ST.less hle3 ?_;have hany:(iX tl c.sides).any (fun p=>decide ((p.2.length:Int)≠2))=true:=by
      rw[← hmc,zj8];exact⟨(tk,tl2),zf2.2 ⟨_,ht,I⟩,by simpa using hne2⟩
     exact za7 (.inl I) results52 I ⟨by unfold cH; rw[zf9 (by rw[hz0]; exact Bool.false_ne_true),zg1 hany],I,I⟩
    ·obtain ⟨a,bb,rfl⟩:∃ a bb,tl2=[a,bb]:=by
      match tl2,hne2 with
      | [],h=>exact absurd (by simp) h
      | [_],h=>exact absurd (by simp) h
      | [a,bb],_=>exact⟨a,bb,rfl⟩
      | _::_::_::q,h=>exact absurd (by simp only[ze8]; omega) h
     have hbt:=za5 hti (by simp);obtain ⟨js',j0,u0,lu,hp1,hp2,hp3,hp4,hp6,hp5⟩:=ED js a;have hjb':=hp6 _ hjb;have hlu:=hjb' _ (zg2 hp1);dsimp only at hlu;refine kP (tN (sQ ?_));refine SC.to (fun w hw=>hp5 E g3 [eJ it2 mm es2 clk2 (vis2++[e2]),pt b13 (.cells #[.map (some mj)] 69 (0,0)),mp mj (jq js),pt b3 (.cells #[vi ri,vi c.dim,.slice rp c.sides.length rcap] 54 (0,0))] s w hw) ?_;refine SC.drawT 4 [14] [(0,1),(1,2),(2,2),(3,1),(4,1),(5,2),(6,2),(7,1),(8,1),(9,2),(10,2),(11,1),(12,0),(13,0),(14,0)] ze3 kR<|pK I (qL isAgg69 I (cO 1 I I)) (yM I (pU I (iA aG zT3 I I hbt dC (show (0:Int)<((2:Nat):Int) by decide)) ?_));refine pK I (eB iT3 I (za6 hti) (j:=0) I I) (pK I (qL isAgg69 I (cO 1 I I)) (yM I (pU I (iA aG zT3 I I hbt dC (show (0:Int)<((2:Nat):Int) by decide)) ?_)));refine pK I (eB iT3 I (za6 hti) (j:=0) I I) (pK I (SQ.eq (SQ.lookup mty69 I I (bo.own 2 I)) hp2) (yM I (pU I (iA aG zT3 I I hbt dC (show (1:Int)<((2:Nat):Int) by decide)) ?_)));refine pK rfl (eB iT3 rfl (za6 hti) (j:=1) rfl rfl) (SP.o rfl (bS sty22 rfl rfl rfl (ab sB) dC) dC (.inr (by rintro _ _ _ ⟨b93,rfl,rfl,rfl⟩; exact⟨by exact zb8 _,(by exact .cons _ (List.take_sublist _ _))⟩)) ?_);rintro _ _ _ ⟨b93,rfl,rfl,rfl⟩;refine SP.o I (SO.app1 (j0+4) ((lu++[bb]).flatMap ae.enc) (lu++[bb]).length sty22 I I I (qZ hp1 s) I ⟨I,trivial⟩ (by simp[ae]; rfl) (by simp) lN lN) dC (.inr (by rintro u1 _ _ ⟨rfl,rfl⟩; exact⟨by exact zb8 _,(by exact eH _ _ _ _)⟩)) ?_;rintro u1 _ _ ⟨rfl,rfl⟩;refine SP.on I (SO.mapUpdate 2 mty69 I I I I) (.inl dC) ?_;rintro _ _ _ ⟨rfl,rfl⟩;refine pN (tN (SC.drop (s':=[eJ it2 mm es2 clk2 (vis2++[e2]),pt b13 (.cells #[.map (some mj)] 69 (0,0)),mp mj (jq (js'.set j0 (a,u1,lu++[bb]))),pt b3 (.cells #[vi ri,vi c.dim,.slice rp c.sides.length rcap] 54 (0,0))]++(fz (js'.set j0 (a,u1,lu++[bb]))++s)) (by rw[← hp3 u1 bb,← qY (v':=u1) (l':=lu++[bb]) hp1 s]; exact .refl _) ?_));have hjb1:∀ t∈(js'.set j0 (a,u1,lu++[bb])),t.2.2.length≤2 * vt.length+1:=fun t ht=>(by rcases List.mem_or_eq_of_mem_set ht with h | h; (have:=hjb' t h; omega); (subst h; simp; omega));obtain ⟨js2,j1,u2,lw,hq1,hq2',hq3,hq4,hq6,hq5⟩:=ED (js'.set j0 (a,u1,lu++[bb])) bb;have hjb2:=hq6 _ hjb1;have hlw:=hjb2 _ (zg2 hq1);dsimp only at hlw;refine SC.to (fun w hw=>hq5 E g3 [eJ it2 mm es2 clk2 (vis2++[e2]),pt b13 (.cells #[.map (some mj)] 69 (0,0)),mp mj (jq (js'.set j0 (a,u1,lu++[bb]))),pt b3 (.cells #[vi ri,vi c.dim,.slice rp c.sides.length rcap] 54 (0,0))] s w hw) ?_;refine SC.drawT 4 [14] [(0,1),(1,2),(2,2),(3,1),(4,1),(5,2),(6,2),(7,1),(8,1),(9,2),(10,2),(11,1),(12,0),(13,0),(14,0)] ze3 kR ?_;refine pK I (qL isAgg69 I (cO 1 I I)) (yM I (pU I (iA aG zT3 I I hbt dC (show (1:Int)<((2:Nat):Int) by decide)) ?_));refine pK I (eB iT3 I (za6 hti) (j:=1) I I) (pK I (qL isAgg69 I (cO 1 I I)) (yM I (pU I (iA aG zT3 I I hbt dC (show (1:Int)<((2:Nat):Int) by decide)) ?_)));refine pK I (eB iT3 I (za6 hti) (j:=1) I I) (pK I (SQ.eq (SQ.lookup mty69 I I (bo.own 2 I)) hq2') (yM I (pU I (iA aG zT3 I I hbt dC (show (0:Int)<((2:Nat):Int) by decide)) ?_)));refine pK rfl (eB iT3 rfl (za6 hti) (j:=0) rfl rfl) (SP.o rfl (bS sty22 rfl rfl rfl (ab sB) dC) dC (.inr (by rintro _ _ _ ⟨b107,rfl,rfl,rfl⟩; exact⟨by exact zb8 _,(by exact .cons _ (List.take_sublist _ _))⟩)) ?_);rintro _ _ _ ⟨b107,rfl,rfl,rfl⟩;refine SP.o I (SO.app1 (j1+4) ((lw++[a]).flatMap ae.enc) (lw++[a]).length sty22 I I I (qZ hq1 s) I ⟨I,trivial⟩ (by simp[ae]; rfl) (by simp) lN lN) dC (.inr (by rintro u3 _ _ ⟨rfl,rfl⟩; exact⟨by exact zb8 _,(by exact eH _ _ _ _)⟩)) ?_;rintro u3 _ _ ⟨rfl,rfl⟩;refine SP.on I (SO.mapUpdate 2 mty69 I I I I) (.inl dC) ?_;rintro _ _ _ ⟨rfl,rfl⟩;refine pN (bN (dR (s':=[eJ it2 mm es2 clk2 (vis2++[e2]),pt b13 (.cells #[.map (some mj)] 69 (0,0)),mp mj (jq (js2.set j1 (bb,u3,lw++[a]))),pt b3 (.cells #[vi ri,vi c.dim,.slice rp c.sides.length rcap] 54 (0,0))]++(fz (js2.set j1 (bb,u3,lw++[a]))++s)) (by rw[← hq3 u3 a,← qY (v':=u3) (l':=lw++[a]) hq1 s]; exact .refl _) ?_));exact ST.again (vis2++[e2],vl2++[(tk,.slice tp 2 tc)],vt++[(tk,.slice tp 2 tc,[a,bb])],js2.set j1 (bb,u3,lw++[a])) sB I I ⟨hrv4,by rw[hvl2]; simp[jq],fun t ht2=>by
       rcases zf3.1 ht2 with h | h
       ·exact hvt t h
       ·simp at h; subst h; exact⟨ht,I⟩,by rw[hq4,hp4,hjs]; simp[eu,gF,kQ],fun t ht2=>by
       simp only[ze5,ze7]
       rcases List.mem_or_eq_of_mem_set ht2 with h | h
       ·have:=hjb2 t h; omega
       ·subst h; simp; omega⟩ (by
       have:=hrv4.len hmi2;simp only[jq,ze6,ze5,ze7] at this ⊢;omega)
  ·obtain ⟨zp,hzp,rfl⟩:=zf2.1 hq1;refine yX I<|tZ<|sQ<|za1 I<|kP<|tN<|bK<|rZ<|lK (SQ.entryP 0 I I hes1 hmi1 he hk1 hv1)<|yX I<|aT I<|sW I<|lU (nQ I I)<|tZ<|iP I (fun hne=>?_) (fun hne=>?_)
   ·refine rZ<|aT I<|rE<|bR<|tR<|bR<|tR<|dR (s':=s) (.cons _<|.cons _<|.refl _)<|ST.less hle3 ?_;have hany:(ly tl c.sides).any (fun p=>decide (p.2≠0))=true:=by
     rw[← hz,zj8];exact⟨zp,hzp,by simpa using hne⟩
    exact za7 (.inl I) results52 I ⟨by unfold cH; rw[zg1 hany],I,I⟩
   ·refine kP (bN ?_);exact ST.again (vis++[e],vl++[(zp.1,vi zp.2)]) sB I I ⟨hrv2,fun p hp=>by
     rcases zf3.1 hp with h | h
     ·exact hvz p h
     ·simp at h; subst h;have:zp.2=0:=by simpa using hne
      simp[this]⟩ (by
     have:=hrv2.len hmi1;simp only[rM,ze6,ze5,ze7] at this ⊢;omega)
def fJ (tl:List Cl):List Cl→Int→Option (Int×Int)
 | [],_=>none
 | x::r,last=>if x.id≤last then some (x.id,20) else if cw tl x≠0 then some (x.id,cw tl x) else fJ tl r x.id
def nk (tl:List Cl):List Cl→Option (Int×Int)
 | []=>none
 | x::r=>if x.dim>1∧cH tl x≠0 then some (x.id,cH tl x) else nk tl r
def aq (l:List Cl):Int×Int:=if (l.length:Int)>4000 then (0,2) else (fJ (aW l) (aa l) 0).getD ((nk (aW l)<|aa l).getD (0,0))
theorem uo {tl:List Cl}{c:Cl}(h:cw tl c=0):c.sides.length≤64∧∀ x∈c.sides,x.sign=1∨x.sign = -1:=by
 unfold cw at h;split at h
 ·simp at h
 ·rename_i hdb;split at h
  ·simp at h
  ·rename_i hcb;split at h
   ·simp at h
   ·split at h
    ·simp at h
    ·rename_i hsg;refine⟨?_,fun x hx=>?_⟩
     ·simp[eL] at hdb;simp[aY] at hcb
      rcases Int.lt_trichotomy c.dim 1 with h | h | h
      ·have:c.dim=0:=oM;have:=hcb.1.1 this;simp[this]
      ·have:=hcb.1.2 h;omega
      ·have:=hcb.2 h;omega
     ·have h1:c.sides.any bF=false:=by simpa using hsg
      rw[zk6] at h1;have h2:=h1 x hx;simp only[bF,zj3,zj5,ne_eq,not_and,Decidable.not_not] at h2;by_cases h3:x.sign=1
      ·exact .inl h3
      ·exact .inr<|h2 h3
theorem nN {tl:List Cl}:∀ {l:List Cl} {last:Int},fJ tl l last=none→∀ x∈l,cw tl x=0
 | [],_,_,x,hx=>by simp at hx
 | y::r,last,h,x,hx=>by
  unfold fJ at h;split at h
  ·simp at h
  ·split at h
   ·simp at h
   ·rename_i h0
    rcases zf1.1 hx with rfl | hx
    ·exact zg9 h0
    ·exact nN h x hx
theorem yx {l:List Cl}(h:∀ x∈aa l,cw (aW l) x=0){c:Cl}(hc:c∈aa l):AOk (aW l) c:=by
 obtain ⟨h1,h2⟩:=uo<|h c hc;refine⟨h1,h2,fun x hx=>?_⟩;unfold aV;cases hf:ao (aW l) x.cell with
 | none=>simp[bg]
 | some y=>exact uo<|h y<|wb (eP hf).1
theorem jX (E:World)(g:PH)(s:Own)(v:Value)(l:List Cl)(hv:ak g v l)(hf:a8 l) :
  Ctr Tryz.prog E 24 #[.agg #[v]] g s (fun r g' s'=>r = .tuple #[vi (aq l).1,vi (aq l).2]∧g=g'∧s=s'):=by
 have hfc:=ba hf;have hfl:=hf.1;obtain ⟨p,cp,hvf⟩:=hv.form;subst hvf;refine zb1 (args:=[.agg #[.slice p l.length cp]]) func24 I ntmps24 (bE I)<|rZ (bW (bO I) fun b1=>?_);refine lA I<|aT I<|sQ<|rZ<|lU (fA du I di I)<|lK (qL dU I<|cO 0 I I)<|lU (eN aF I)<|lU (gR I I)<|tZ<|iP I (fun hbig=>?_) (fun hbig=>?_)
 ·exact rZ<|lA I<|aT I<|rE<|tR<|dR (s':=s) uR<|ST.ret2 (.inl I) results24 I I ⟨by unfold aq; rw[zg1 hbig],I,I⟩
 ·refine kP<|tN<|rZ<|lK (qV 0 ar ag I I I)<|lW (SO.call call49 I<|yU E g _ _ l hv hf) ?_;rintro tv g1 _ ⟨rfl,hle1,ht⟩;refine aT I<|rZ<|lK (qV 0 ar ag I I I)<|lW (SO.call call50 I<|jY E g1 _ _ l (hv.mono hle1) hf) ?_;rintro _ g2 _ ⟨rfl,hle2,u,rfl,rs,hrs,hall⟩;obtain ⟨q,d,rfl⟩:=hrs.form;refine lU (SU.field du I dU I I)<|lA I<|aT I<|sQ<|sW I<|lU (eN aF I)<|lM I<|tZ<|bK ?_;have hres:aq l=(fJ (aW l) (aa l) 0).getD ((nk (aW l)<|aa l).getD (0,0)):=by unfold aq; rw[zf9 hbig]
  have ht2:=ht.mono hle2;have hlen:=hall.length;have hcl:=hfc.1;have hleg:=hle1.trans hle2;refine SC.loop (ι:=Nat×Int) (fun i=>[(4,tv),(5,vi i.2),(6,.slice q rs.length d),(22,.slice q rs.length d),(23,vi rs.length),(24,vi i.1)]) (fun _=>g2)
   (fun _=>pt b1 (.cells #[.slice p l.length cp] 29 (0,0))::s) (fun i=>i.1≤rs.length∧fJ (aW l) (aa l) 0=fJ (aW l) ((aa l).drop i.1) i.2) (fun i=>rs.length - i.1) (0,0)
   sB rfl rfl ⟨zf6 _,by simp⟩ ?_
  rintro ⟨k,last⟩ ⟨hk,heq⟩;dsimp only at hk heq ⊢;refine rZ<|yL I<|tZ<|sQ<|iP I (fun hlt=>?_) (fun hlt=>?_)
  ·have hkr:k<rs.length:=oM;have hkc:k<(aa l).length:=oM;have hb1:=hrs.based oM;have hcr:=hall.get (gE hkc)<|gE hkr;have hgx:rs[((k:Nat):Int).toNat]?=some rs[k]:=gE hkr;have hdrop:(aa l).drop k=(aa l)[k]::(aa l).drop (k+1):=zg6 hkc;have hxl:=hfc.2 _<|gM hkc;generalize rs[k]=x at *;generalize (aa l)[k]=cx at *;rw[hdrop] at heq;obtain ⟨xi,xd,xv⟩:=x;have hxi:xi=cx.id:=hcr.1;subst hxi;refine kP (tN<|sQ<|bK<|rZ<|lU (iA aF au I I hb1 oM sL)<|lK (eA bQ au I hrs.rd hgx)<|bW (aL zl3) fun b8=>?_);refine oZ (sK 0 au I I I I I sB)<|tZ<|sQ<|rZ<|lU (fA aw I zT3 I)<|lK (qL iT3 I<|cO 0 I I)<|lM I<|lU (SU.leq I I)<|tZ<|iP I (fun hid=>?_) (fun hid=>?_)
   ·refine rZ<|lU (fA aw I zT3 I)<|lK (qL iT3 I<|cO 0 I I)<|lA I<|aT I<|rE<|tR<|bR<|tR<|tR<|bR<|tR<|dR (s':=s) (.cons _<|.cons _<|.refl _)<|ST.less hleg ?_;have h1:aq l=(cx.id,20):=by rw[hres,heq]; unfold fJ; rw[zg1 hid]; rfl
    exact ST.ret2 (.inl I) results24 I I ⟨by (rw[h1]; rfl),rfl,rfl⟩
   ·refine kP<|tN<|rZ<|lU (fA aw I zT3 I)<|lK (qL iT3 I<|cO 0 I I)<|aT I<|sW I<|lK (qV 0 bQ au I I I)<|lW (SO.call call51 I<|AA E g2 _ tv (aW l) cx _ ht2 hcr hxl) ?_;rintro _ _ _ ⟨rfl,rfl,rfl⟩;refine aT I<|sW I<|lU (nQ I I)<|tZ<|iP I (fun he=>?_) (fun he=>?_)
    ·refine rZ<|lU (fA aw I zT3 I)<|lK (qL iT3 I<|cO 0 I I)<|lM I<|lA I<|aT I<|rE<|bR<|tR<|tR<|bR<|tR<|dR (s':=s) (.cons _<|.cons _<|.refl _)<|ST.less hleg ?_;have h1:aq l=(cx.id,cw (aW l) cx):=by rw[hres,heq]; unfold fJ; rw[zf9 hid,zg1 he]; rfl
     exact ST.ret2 (.inl I) results24 I I ⟨by (rw[h1]; rfl),rfl,rfl⟩
    ·exact kP<|bN<|tN<|rG<|yD I<|lM I<|nL<|dR (s':=pt b1 (.cells #[.slice p l.length cp] 29 (0,0))::s) (.cons _<|.refl _)<|ST.again (k+1,cx.id) sB I I ⟨lN,by rw[heq]; rw[fJ,zf9 hid,zf9 he]⟩ lN
  ·have hkk:(aa l).drop k=[]:=List.drop_of_length_le oM;rw[hkk] at heq;have hall0:=nN heq;refine xI<|tX<|tX<|bX<|tN<|sQ<|sW I<|lU (eN aF I)<|lM I<|tZ<|bK<|SC.loop (ι:=Nat) (fun i=>[(4,tv),(45,.slice q rs.length d),(46,vi rs.length),(47,vi i)]) (fun _=>g2)
    (fun _=>pt b1 (.cells #[.slice p l.length cp] 29 (0,0))::s) (fun i=>i≤rs.length∧nk (aW l) (aa l)=nk (aW l) ((aa l).drop i)) (fun i=>rs.length - i) 0
    sB rfl rfl ⟨zf6 _,by simp⟩ ?_
   rintro k ⟨hk,heq2⟩;try dsimp only
   refine rZ<|yL I<|tZ<|sQ<|iP I (fun hlt2=>?_) (fun hlt2=>?_)
   ·have hkr:k<rs.length:=oM;have hkc:k<(aa l).length:=oM;have hb1:=hrs.based oM;have hcr:=hall.get (gE hkc)<|gE hkr;have hgx:rs[((k:Nat):Int).toNat]?=some rs[k]:=gE hkr;have hdrop:(aa l).drop k=(aa l)[k]::(aa l).drop (k+1):=zg6 hkc;have hcm:=gM hkc;have haok:=yx hall0 hcm;generalize rs[k]=x at *;generalize (aa l)[k]=cx at *;rw[hdrop] at heq2;obtain ⟨xi,xd,xv⟩:=x;have hxi:xi=cx.id:=hcr.1;have hxd:xd=cx.dim:=hcr.2.1;subst hxi hxd;refine kP (tN<|sQ<|bK<|rZ<|lU (iA aF au I I hb1 oM sL)<|lK (eA bQ au I hrs.rd hgx)<|bW (aL zl3) fun b11=>?_);refine oZ (sK 0 au I I I I I sB)<|tZ<|rZ<|lU (fA aw I zT3 I)<|lK (qL iT3 I<|cO 0 I I)<|lU (gR I I)<|tZ<|iP I (fun hd1=>?_) (fun hd1=>?_)
    ·refine sW I<|lK (qV 0 bQ au I I I)<|lW (SO.call call52 I<|vN E g2 _ tv (aW l) cx _ ht2 hcr haok) ?_;rintro _ _ _ ⟨rfl,rfl,rfl⟩;refine aT I<|sW I<|lU (nQ I I)<|tZ<|iP I (fun he=>?_) (fun he=>?_)
     ·refine rZ<|lU (fA aw I zT3 I)<|lK (qL iT3 I<|cO 0 I I)<|lM I<|lA I<|aT I<|rE<|bR<|tR<|tR<|bR<|tR<|dR (s':=s) (.cons _<|.cons _<|.refl _)<|ST.less hleg ?_;have h1:aq l=(cx.id,cH (aW l) cx):=by rw[hres,heq,heq2]; unfold nk; rw[zg1 ⟨hd1,he⟩]; rfl
      exact ST.ret2 (.inl I) results24 I I ⟨by (rw[h1]; rfl),rfl,rfl⟩
     ·exact kP<|bN<|tN<|rG<|yD I<|lM I<|nL<|dR (s':=pt b1 (.cells #[.slice p l.length cp] 29 (0,0))::s) (.cons _<|.refl _)<|ST.again (k+1) sB I I ⟨oM,by rw[heq2]; rw[nk,zf9 (fun h=>he h.2)]⟩ oM
    ·exact kP<|bN<|tN<|rG<|yD I<|lM I<|nL<|dR (s':=pt b1 (.cells #[.slice p l.length cp] 29 (0,0))::s) (.cons _<|.refl _)<|ST.again (k+1) sB I I ⟨oM,by rw[heq2]; rw[nk,zf9 (fun h=>hd1 h.1)]⟩ oM
   ·have hkk2:(aa l).drop k=[]:=List.drop_of_length_le oM;rw[hkk2] at heq2;refine xI<|tX<|tX<|bX<|tN<|rZ<|lA I<|aT I<|rE<|dR (s':=s) (.cons _<|.refl _)<|ST.less hleg ?_;have h1:aq l=(0,0):=by rw[hres,heq,heq2]; rfl
    exact ST.ret2 (.inl I) results24 I I ⟨by (rw[h1]; done),I,I⟩
def lbI (l:List Int)(x:Int):Nat:=(l.filter fun y=>decide (y<x)).length
theorem EM {l:List Int}{x:Int}{i:Nat}(hi:i≤l.length)(h1:∀ k (h:k<l.length),k<i→l[k]<x)(h2:∀ k (h:k<l.length),i≤k→x≤l[k]):lbI l x=i:=by
 unfold lbI;have e:l=l.take i++l.drop i:=(zj2 i l).symm;rw[e,zh6];have f1:(l.take i).filter (fun y=>decide (y<x))=l.take i:=by
  rw[List.filter_eq_self];intro y hy;obtain ⟨k,hk,rfl⟩:=zc7 hy;simp at hk;simpa using h1 k oM oM
 have f2:(l.drop i).filter (fun y=>decide (y<x))=[]:=by
  rw[List.filter_eq_nil_iff];intro y hy;obtain ⟨k,hk,rfl⟩:=zc7 hy;simp at hk;have:=h2 (i+k) oM oM;simp only[List.getElem_drop];simp;omega
 rw[f1,f2];simp;omega
theorem Cb {l:List Int}{x:Int}{i:Nat}(hs:l.Pairwise (· ≤ ·))(h1:∀ k (h:k<l.length),k<i→l[k]<x)(h2:∀ k (h:k<l.length),i≤k→x≤l[k])(hi:i<l.length):decide (l[i]=x)=l.contains x:=by
 rw[Bool.eq_iff_iff];simp;constructor
 ·intro e; rw[← e]; exact gM hi
 ·intro hm;obtain ⟨k,hk,e⟩:=zc7 hm;have hki:i≤k:=by
   rcases Nat.lt_or_ge k i with h | h
   ·have:=h1 k hk h; omega
   ·exact h
  have h3:=h2 i hi<|lR _
  rcases Nat.eq_or_lt_of_le hki with rfl | h
  ·exact e
  ·have:=zc9.1 hs i k hi hk h;omega
theorem BN {l:List Int}{x:Int}{i:Nat}(h1:∀ k (h:k<l.length),k<i→l[k]<x)(hi:¬ i<l.length):l.contains x=false:=by
 rw[Bool.eq_false_iff];intro hm;simp at hm;obtain ⟨k,hk,e⟩:=zc7 hm;have:=h1 k hk oM;omega
def j4 (n:Int):Int:=1 - 2 * (n % 2)
theorem zn (n:Int):IntKind.i64.wrap ((BitVec.ofInt IntKind.i64.bits n &&& BitVec.ofInt IntKind.i64.bits 1).toNat:Int)=n % 2:=by
 have h1:(BitVec.ofInt 64 n &&& BitVec.ofInt 64 1).toNat=(n % 2).toNat:=by
  rw[BitVec.toNat_and,show (BitVec.ofInt 64 1).toNat=1 from rfl,Nat.and_one_is_mod,BitVec.toNat_ofInt];omega
 show IntKind.i64.wrap ((BitVec.ofInt 64 n &&& BitVec.ofInt 64 1).toNat:Int)=n % 2;rw[h1,zk9 _ oM];omega
theorem AB (l:List Cl):∀ acc:List Cl,∃ r,l.foldl gS acc=acc++r∧r.Sublist l:=by
 induction l with
 | nil=>intro acc; exact⟨[],by simp,.refl _⟩
 | cons c t ih =>
  intro acc;simp only[zi7];obtain ⟨r,h1,h2⟩:=ih<|gS acc c;unfold gS at h1;unfold gS;split at h1
  ·rename_i hc;rw[zg1 hc];exact⟨r,h1,h2.cons _⟩
  ·rename_i hc;rw[zf9 hc];exact⟨c::r,by rw[h1]; simp,h2.cons_cons _⟩
theorem vY (l:List Cl):(aW l).Sublist (aa l):=by
 obtain ⟨r,h1,h2⟩:=AB (aa l) [];unfold aW;rw[h1];simpa using h2
theorem x8 (l:List Cl):(aa l).map Cl.id=(sortBy Cl.id l).map Cl.id:=by
 unfold aa;rw[zi4];rfl
theorem lx (l:List Cl):((aa l).map Cl.id).Pairwise (· ≤ ·):=by
 rw[x8,zk5];exact ck l
theorem kx (l:List Cl):((aW l).map Cl.id).Pairwise (· ≤ ·):=(lx l).sublist ((vY l).map _)
theorem tq {l:List Cl}(h:(aq l).2=0):l.length≤4000:=by
 unfold aq at h;split at h
 ·simp at h
 ·omega
theorem Tryz.buildE29 (w:World):(Instr.build 29 #[]).run Tryz.prog w = .ok (.agg #[.slice none 0 0]) w:=by
 simp[Instr.build,Instr.fill];rfl
theorem Tryz.buildC54 (x y:Int)(w:World):(Instr.build 54 #[(0,vi x),(1,vi y)]).run Tryz.prog w = .ok (.agg #[vi x,vi y,.slice none 0 0]) w:=by
 have hz:(Value.agg #[vi 0,vi 0,Value.slice none 0 0]).cells = #[vi 0,vi 0,.slice none 0 0]:=rfl;have h1:∀ z:Int,(vi z).cells = #[vi z]:=fun _=>rfl;simp[Instr.build,Instr.fill,hz,h1]
theorem Tryz.buildS56 (x y:Int)(w:World):(Instr.build 56 #[(0,vi x),(1,vi y)]).run Tryz.prog w = .ok (.agg #[vi x,vi y]) w:=by
 have hz:(Value.agg #[vi 0,vi 0]).cells = #[vi 0,vi 0]:=rfl;have h1:∀ z:Int,(vi z).cells = #[vi z]:=fun _=>rfl;simp[Instr.build,Instr.fill,hz,h1]
theorem zh {tl:List Cl}:∀ {l:List Cl} {last:Int} {p:Int×Int},fJ tl l last=some p→p.2≠0
 | [],_,_,h=>by simp[fJ] at h
 | y::r,last,p,h=>by
  unfold fJ at h;split at h
  ·injection h with h; subst h; show (20:Int)≠0; decide
  ·split at h
   ·rename_i h0; injection h with h; subst h; exact h0
   ·exact zh h
theorem aN (l:List Cl):(aa l).length=l.length:=by simp[aa,eS]
theorem dN (l:List Cl):(aW l).length≤l.length:=by
 rw[← aN l];exact (vY l).length_le
def orI:List Int→Int
 | []=>0
 | a::r=>if a≠0 then a else orI r
def jd:List Int→List Int→Int
 | [],[]=>0
 | [],_::_=>-1
 | _::_,[]=>1
 | a::r,b::t=>if jv a b≠0 then jv a b else jd r t
def aC (a b:List Int):Int:=if jv a.length b.length≠0 then jv a.length b.length else jd a b
theorem Dw (E:World)(g:PH)(s:Own)(v:Value)(l:List Int)(hv:Rd g s v (l.flatMap ae.enc))(hf:∃ p c,v = .slice p l.length c)(hb:0<l.length→based v=true)(hl:l.length<1099511627776) :
  Ctr Tryz.prog E 153 #[v] g s (fun r g' s'=>r=vi (orI l)∧g=g'∧s=s'):=by
 obtain ⟨p,c,rfl⟩:=hf;refine zb1 (args:=[.slice p l.length c]) func153 I ntmps153 (bE I)<|rZ<|aT I<|rZ<|aT I<|sQ<|sW I<|lU (eN aG I)<|lM I<|tZ<|bK<|SC.loop (ι:=Nat) (fun k=>[(3,vi 0),(6,.slice p l.length c),(7,vi l.length),(8,vi k)]) (fun _=>g) (fun _=>s) (fun k=>k≤l.length∧orI l=orI (l.drop k)) (fun k=>l.length - k) 0
  sB rfl rfl ⟨zf6 _,by simp⟩ ?_
 rintro k ⟨hk,heq⟩;refine rZ<|yL I<|tZ<|sQ<|iP I (fun hlt=>?_) (fun hlt=>?_)
 ·have hkl:k<l.length:=oM;have hb1:=hb oM;have hgx:l[((k:Nat):Int).toNat]?=some l[k]:=gE hkl;have hdrop:l.drop k=l[k]::l.drop (k+1):=zg6 hkl;generalize l[k]=x at *;rw[hdrop] at heq;refine kP<|tN<|sQ<|bK<|rZ<|lU (iA aG zT3 I I hb1 oM sL)<|lK (eB iT3 I hv hgx I)<|aT I<|sW I<|lM I<|lU (nQ I I)<|tZ<|iP I (fun hd=>?_) (fun hd=>?_)
  ·exact sW I<|aT I<|rE<|bR<|tR<|tR<|bR<|tR<|za7 (.inl I) results153 I ⟨by rw[heq,orI,zg1 hd],I,I⟩
  ·exact kP<|bN<|tN<|rG<|yD I<|lM I<|nL<|ST.again (k+1) sB I I ⟨oM,by rw[heq,orI,zf9 hd]⟩ oM
 ·refine xI<|tX<|tX<|bX<|tN<|sW I<|aT I<|rE ?_;have hkk:l.drop k=[]:=List.drop_of_length_le oM;rw[hkk] at heq;exact za7 (.inl I) results153 I ⟨by rw[heq]; rfl,rfl,rfl⟩
theorem ld (E:World)(g:PH)(s:Own)(v u:Value)(l m:List Int)(hv:dJ g v l)(hu:dJ g u m)(hl:l.length<1099511627776) :
  Ctr Tryz.prog E 141 #[v,u] g s (fun r g' s'=>r=vb (decide (l=m))∧g=g'∧s=s'):=by
 obtain ⟨p,c,rfl⟩:=za3 hv;obtain ⟨q,d,rfl⟩:=za3 hu;refine zb1 (args:=[.slice p l.length c,.slice q m.length d]) func141 I ntmps141 (bE I)<|rZ<|aT I<|sQ<|sW I<|lU (eN aG I)<|lM I<|lU (eN aG I)<|lU (nQ I I)<|tZ<|iP I (fun hne=>?_) (fun hne=>?_)
 ·exact rZ<|aT I<|rE<|tR<|za7 (.inl I) results141 I ⟨by have:l≠m:=fun e=>hne (by rw[e]); simp[this],I,I⟩
 ·refine kP<|tN<|sQ<|sW I<|lU (eN aG I)<|lM I<|tZ<|bK ?_;have hlen:l.length=m.length:=oM;refine SC.loop (ι:=Nat) (fun k=>[(0,.slice p l.length c),(1,.slice q m.length d),(12,vi l.length),(13,vi k)]) (fun _=>g) (fun _=>s) (fun k=>k≤l.length∧l.take k=m.take k) (fun k=>l.length - k) 0
   sB rfl rfl ⟨zf6 _,by simp⟩ ?_
  rintro k ⟨hk,heq⟩;refine rZ<|yL I<|tZ<|sQ<|iP I (fun hlt=>?_) (fun hlt=>?_)
  ·have hkl:k<l.length:=oM;have hkm:k<m.length:=oM;have hb1:=za5 hv oM;have hb2:=za5 hu oM;refine kP<|tN<|sQ<|bK<|sW I<|aT I<|sQ<|dW [] [(0,2),(1,2),(2,2),(3,1),(4,2),(5,2),(6,2),(7,1),(8,2)] ze3 kR<|yM I<|yM I<|pU I (iA aG zT3 I I hb1 oM sL)<|pQ I (eB iT3 I (za6 hv) (gE hkl) I) dC<|yM I<|yM I<|pU I (iA aG zT3 I I hb2 oM sL)<|pQ I (eB iT3 I (za6 hu) (gE hkm) I) dC<|pU I (nQ I I)<|pN<|tN<|iP I (fun hd=>?_) (fun hd=>?_)
   ·exact rZ<|aT I<|rE<|bR<|tR<|tR<|bR<|tR<|za7 (.inl I) results141 I ⟨by have:l≠m:=fun e=>hd (by simp[e]); simp[this],I,I⟩
   ·exact kP<|bN<|tN<|rG<|yD I<|lM I<|nL<|ST.again (k+1) sB I I ⟨oM,fE hkl hkm heq<|zg9 hd⟩ oM
  ·refine xI<|tX<|tX<|bX<|tN<|rZ<|aT I<|rE ?_;have hkk:k=l.length:=oM;subst hkk;have:l=m:=gy hlen heq;exact za7 (.inl I) results141 I ⟨by simp[this],I,I⟩
def dh (g:PH)(l:List Int)(r:Sv):Prop:=dJ g (.slice r.p r.n r.c) l
theorem dh.mono {g g':PH}(hl:Le g g'){l:List Int}{r:Sv}(h:dh g l r):dh g' l r:=za4 h hl
theorem dh.len {g:PH}{l:List Int}{r:Sv}(h:dh g l r):r.n=l.length:=(SlA.cap h).1
def f9 (g:PH)(v:Value)(l:List (List Int)):Prop:=∃ rs,SlA cR g v rs∧az (dh g) l rs
theorem f9.mono {g g':PH}{v:Value}{l:List (List Int)}(h:f9 g v l)(hl:Le g g'):f9 g' v l:=by
 obtain ⟨rs,h1,h2⟩:=h;exact⟨rs,h1.mono hl,h2.mono fun _ _=>dh.mono hl⟩
def f7 (bits:Nat)(l:List Int):List Int:=(l.zipIdx.filter fun p=>bits / 2 ^ p.2 % 2 == 1).map (·.1)
def dD (l:List Int):List (List Int):=(List.range<|2 ^ l.length - 1).map fun i=>f7 (i+1) l
theorem Dd:∀ n,n<10→IntKind.i64.wrap (1 * 2 ^ min ((n:Nat):Int).toNat IntKind.i64.bits)=((2 ^ n:Nat):Int):=by decide
theorem Dc (b k:Nat)(hk:k<10):(((b:Nat):Int).fdiv<|2 ^ min ((k:Nat):Int).toNat IntKind.i64.bits) % 2=((b / 2 ^ k % 2:Nat):Int):=by
 have h1:min ((k:Nat):Int).toNat IntKind.i64.bits=k:=by
  have:IntKind.i64.bits=64:=rfl;rw[this]; omega
 rw[h1,Int.fdiv_eq_ediv_of_nonneg _<|Int.le_of_lt<|Int.pow_pos dC];simp
theorem Ef (n:Nat)(h:n≤9):2 ^ n≤512:=by
 have:(2:Nat) ^ n≤2 ^ 9:=Nat.pow_le_pow_right dC h;simpa using this
theorem xA {bits k:Nat}{l:List Int}(h:k<l.length):f7 bits (l.take<|k+1)=if bits / 2 ^ k % 2=1 then f7 bits (l.take k)++[l[k]] else f7 bits (l.take k):=by
 unfold f7;rw[tS h,List.zipIdx_append,zh6,zg5];have:(List.take k l).length=k:=by rw[ze4]; omega
 rw[this];simp only[List.zipIdx_cons,List.zipIdx_nil,Nat.zero_add,zi6,List.filter_nil];by_cases hb:bits / 2 ^ k % 2=1
 ·simp[hb]
 ·simp[hb]
theorem gW (bits:Nat)(l:List Int):(f7 bits l).length≤l.length:=by
 unfold f7;rw[ze6];have:=zc5 (fun p:Int×Nat=>bits / 2 ^ p.2 % 2 == 1) l.zipIdx;simpa using this
def fL {α:Type}(eq:α→α→Bool):α→List α→List α
 | _,[]=>[]
 | x,y::r=>if eq y x then fL eq y r else y::fL eq y r
def yo {α:Type}(eq:α→α→Bool):List α→List α
 | []=>[]
 | x::r=>x::fL eq x r
def lbL (ls:List (List Int))(t:List Int):Nat:=(ls.filter fun x=>decide (aC x t<0)).length
theorem El {α:Type}{p:α→Bool}{l:List α}{i:Nat}(hi:i≤l.length)(h1:∀ k (h:k<l.length),k<i→p l[k]=true)(h2:∀ k (h:k<l.length),i≤k→p l[k]=false):(l.filter p).length=i:=by
 rw[← zj2 i l,zh6,ze5];have f1:(l.take i).filter p=l.take i:=List.filter_eq_self.2 fun x hx=>by
  obtain ⟨k,hk,rfl⟩:=zc7 hx;rw[ze4] at hk;rw[List.getElem_take];exact h1 k oM oM
 have f2:(l.drop i).filter p=[]:=List.filter_eq_nil_iff.2 fun x hx=>by
  obtain ⟨k,hk,rfl⟩:=zc7 hx;rw[ze9] at hk;rw[List.getElem_drop,h2 (i+k) oM oM];simp
 rw[f1,f2];simp;omega
theorem bC (a b:Int):(a<b∧jv a b = -1)∨(a=b∧jv a b=0)∨(b<a∧jv a b=1):=by
 unfold jv;by_cases h:a<b
 ·exact .inl ⟨h,zg1 h⟩
 ·by_cases h2:a>b
  ·exact .inr<|.inr ⟨h2,by rw[zf9 h,zg1 h2]⟩
  ·exact .inr<|.inl ⟨oM,by rw[zf9 h,zf9 h2]⟩
theorem lq:∀ a b:List Int,jd b a = - jd a b
 | [],[]=>rfl
 | [],_::_=>rfl
 | _::_,[]=>rfl
 | x::a,y::b=>by
  have ih:=lq a b;simp only[jd]
  rcases bC x y with ⟨h,e⟩ | ⟨h,e⟩ | ⟨h,e⟩ <;> rcases bC y x with ⟨h',e'⟩ | ⟨h',e'⟩ | ⟨h',e'⟩ <;> simp[e,e'] <;> omega
theorem zg:∀ a b:List Int,jd a b=0↔a=b
 | [],[]=>by simp[jd]
 | [],_::_=>by simp[jd]
 | _::_,[]=>by simp[jd]
 | x::a,y::b=>by
  have ih:=zg a b;simp only[jd]
  rcases bC x y with ⟨h,e⟩ | ⟨h,e⟩ | ⟨h,e⟩
  ·simp[e]; omega
  ·subst h; simp[e,ih]
  ·simp[e]; omega
theorem qE:∀ a b c:List Int,jd a b<0→jd b c<0→jd a c<0
 | [],[],_,h,_=>by simp[jd] at h
 | [],_::_,[],_,h=>by simp[jd] at h
 | [],_::_,_::_,_,_=>by simp[jd]
 | _::_,[],_,h,_=>by simp[jd] at h
 | _::_,_::_,[],_,h=>by simp[jd] at h
 | x::a,y::b,z::c,h1,h2=>by
  have ih:=qE a b c;simp only[jd] at h1 h2 ⊢
  rcases bC x y with ⟨h,e⟩ | ⟨h,e⟩ | ⟨h,e⟩ <;> rcases bC y z with ⟨h',e'⟩ | ⟨h',e'⟩ | ⟨h',e'⟩ <;> rcases bC x z with ⟨h'',e''⟩ | ⟨h'',e''⟩ | ⟨h'',e''⟩ <;> simp[e,e',e''] at h1 h2 ⊢ <;> first | omega | exact ih h1 h2
theorem i7 (a b:List Int):aC b a = - aC a b:=by
 have h1:=lq a b;unfold aC
 rcases bC a.length b.length with ⟨h,e⟩ | ⟨h,e⟩ | ⟨h,e⟩ <;> rcases bC b.length a.length with ⟨h',e'⟩ | ⟨h',e'⟩ | ⟨h',e'⟩ <;> simp[e,e'] <;> omega
theorem oE (a b:List Int):aC a b=0↔a=b:=by
 have h1:=zg a b;unfold aC
 rcases bC a.length b.length with ⟨h,e⟩ | ⟨h,e⟩ | ⟨h,e⟩
 ·simp[e]; intro h2; rw[h2] at h; omega
 ·simp[e,h1]
 ·simp[e]; intro h2; rw[h2] at h; omega
theorem fB (a b c:List Int)(h1:aC a b<0)(h2:aC b c<0):aC a c<0:=by
 have ih:=qE a b c;unfold aC at *
 rcases bC a.length b.length with ⟨h,e⟩ | ⟨h,e⟩ | ⟨h,e⟩ <;> rcases bC b.length c.length with ⟨h',e'⟩ | ⟨h',e'⟩ | ⟨h',e'⟩ <;> rcases bC a.length c.length with ⟨h'',e''⟩ | ⟨h'',e''⟩ | ⟨h'',e''⟩ <;> simp[e,e',e''] at h1 h2 ⊢ <;> first | omega | exact ih h1 h2
theorem c8 (a:List Int):aC a a=0:=(oE a a).2 rfl
theorem ew (a b:List Int):aC a b<0∨a=b∨aC b a<0:=by
 have h1:=i7 a b
 rcases Int.lt_trichotomy (aC a b) 0 with h | h | h
 ·exact .inl h
 ·exact .inr<|.inl<|(oE a b).1 h
 ·exact .inr<|.inr oM
theorem jT (a b c:List Int)(h1:¬ aC a b<0)(h2:¬ aC b c<0):¬ aC a c<0:=by
 intro h3
 rcases ew a b with h | h | h
 ·exact h1 h
 ·subst h; exact h2 h3
 ·exact h2<|fB b a c h h3
def A5 (l:List (List Int)):Prop:=l.Pairwise fun a b=>¬ aC b a<0
def CN (x:List Int):List (List Int)→List (List Int)
 | []=>[x]
 | y::r=>if aC y x<0 then y::CN x r else x::y::r
def rH:List (List Int)→List (List Int)
 | []=>[]
 | x::r=>CN x<|rH r
theorem nG (x:List Int):∀ l,(CN x l).Perm (x::l)
 | []=>.refl _
 | y::r=>by
  unfold CN;split
  ·exact ((nG x r).cons y).trans<|.swap x y r
  ·exact .refl _
theorem l9:∀ l,(rH l).Perm l
 | []=>.refl _
 | x::r=>(nG x<|rH r).trans<|(l9 r).cons x
theorem wG (x:List Int):∀ {l},A5 l→A5 (CN x l)
 | [],_=>List.pairwise_singleton _ _
 | y::r,h=>by
  obtain ⟨h1,h2⟩:=zk4.1 h;unfold CN;split
  ·rename_i hy;refine zk4.2 ⟨fun z hz=>?_,wG x h2⟩
   rcases zf1.1 ((nG x r).subset hz) with rfl | hz
   ·intro h3; have:=fB y z y hy h3; rw[c8] at this; omega
   ·exact h1 z hz
  ·rename_i hy;refine zk4.2 ⟨fun z hz=>?_,h⟩
   rcases zf1.1 hz with rfl | hz
   ·exact hy
   ·exact jT z y x (h1 z hz) hy
theorem nz:∀ l,A5 (rH l)
 | []=>List.Pairwise.nil
 | x::r=>wG x<|nz r
open Go Go.Sy Go.Pl Go.Proofs Go.Shelf Go.Sort
structure LV (g:PH) where
 sv:Sv
 l:List Int
 h:dh g l sv
 len:l.length<1099511627776
instance (g:PH):Inhabited (LV g):=⟨⟨⟨none,0,0⟩,[],zb9 g 1,by decide⟩⟩
def A9 (W:World):PH:=fun b=>W.heap[b]?
theorem Ey (W:World):At W (A9 W) [] W:=⟨rfl,⟨rfl,Nat.le_refl _⟩,rfl,fun _ _ h=>h,by simp,by simp,List.Pairwise.nil⟩
theorem Cr {W w':World}(h:At W (A9 W) [] w'):∃ q os',w'=grow (W.drewN q) os':=by
 refine⟨w'.drawn - W.drawn,w'.heap.extract W.heap.size,?_⟩;have hpre:∀ k,k<W.heap.size→w'.heap[k]?=W.heap[k]?:=fun k hk=>by
  rw[h.known k W.heap[k] (by simp[A9,hk]),Array.getElem?_eq_getElem hk]
 have hsz:W.heap.size≤w'.heap.size:=by
  rcases Nat.eq_zero_or_pos W.heap.size with h0 | h0
  ·omega
  ·have:=hpre (W.heap.size - 1) oM;rw[Array.getElem?_eq_getElem (xs:=W.heap) oM] at this;have:=(Array.getElem?_eq_some_iff.1 this).1;omega
 have hheap:w'.heap=W.heap++w'.heap.extract W.heap.size:=by
  apply Array.ext_getElem?;intro k;rw[Array.getElem?_append];split
  ·exact hpre k (by assumption)
  ·rename_i hk;rw[Array.getElem?_extract];by_cases hk2:k<w'.heap.size
   ·rw[zg1 oM]; congr 1; omega
   ·rw[zf9 oM,Array.getElem?_eq_none oM]
 obtain ⟨hp,tp,dr,osx,ou⟩:=w';have h1:=h.os; have h2:=h.tape; have h3:=h.output;simp only at h1 h2 h3 hheap;simp only[grow,World.drewN];obtain ⟨h2a,h2b⟩:=h2;subst h1; subst h2a; subst h3;congr 1;omega
def lB (x:Int):Prop:=-9223372036854775808≤x∧x≤9223372036854775807
theorem wy {α:Type}[DecidableEq α]:∀ {l m:List α},l.Nodup→(∀ x∈l,x∈m)→l.length≤m.length
 | [],_,_,_=>zf6 _
 | x::l,m,hn,hs=>by
  obtain ⟨h1,h2⟩:=zk3.1 hn;have hx:x∈m:=hs x (by simp);have h3:=wy (m:=m.erase x) h2 (fun y hy=>by
   have hne:y≠x:=fun e=>h1 (e ▸ hy);exact (List.mem_erase_of_ne hne).2 (hs y (by simp[hy])))
  have h4:=List.length_erase_of_mem hx;have h5:=List.length_pos_of_mem hx;simp only[ze8];omega
def eqL (a b:List Int):Bool:=decide (a=b)
theorem l5 {α:Type}(eq:α→α→Bool):∀ (x:α) (l:List α),(fL eq x l).Sublist l
 | _,[]=>.slnil
 | x,y::r=>by
  simp only[fL];split
  ·exact (l5 eq y r).cons y
  ·exact (l5 eq y r).cons_cons y
theorem vV {α:Type}(eq:α→α→Bool)(l:List α):(yo eq l).Sublist l:=by
 cases l with
 | nil=>exact .slnil
 | cons x r=>exact (l5 eq x r).cons_cons x
def eo (s:List Int):List Int:=yo (fun a b:Int=>decide (a=b)) (tH s)
def lV:List Int→Bool
 | []=>true
 | a::r=>decide (a<0)||decide (((a::r).length:Int)>9)
def iV (all:List (List Int))(t:List Int):List (List Int):=yo eqL (rH<|all++dD t)
def cE:List (List Int)→List (List Int)→Option (List<|List Int)
 | all,[]=>some all
 | all,s::r=>if lV (eo s) then cE all r else if ((iV all<|eo s).length:Int)>4000 then none else cE (iV all<|eo s) r
def iJ (all:List (List Int))(s:List Int)(k:Nat):List Side:=if 0<(s.eraseIdx k).length then [⟨lbL all (s.eraseIdx k)+1,j4 k⟩] else []
def bu (all:List (List Int))(s:List Int)(j:Nat):List Side:=(List.range j).flatMap (iJ all s)
def m5 (all:List (List Int))(p:List Int×Nat):Cl:=⟨p.2+1,(p.1.length:Int) - 1,bu all p.1 p.1.length⟩
def bV (all:List (List Int)):List Cl:=all.zipIdx.map (m5 all)
def fZ (l:List (List Int)):List Cl:=match cE [] l with
 | none=>[]
 | some all=>aa<|bV all
theorem kh {t:List Int}(h:t.length≤9):∀ x∈dD t,x.length≤9:=fun x hx=>by
 obtain ⟨i,_,rfl⟩:=zf2.1 hx;exact zk8 (gW _ _) h
theorem oT {all:List (List Int)}{t x:List Int}(h:x∈iV all t):x∈all∨x∈dD t:=by
 have h1:=(vV eqL _).subset h;have h2:=(l9 _).subset h1;exact zf3.1 h2
theorem Bs {all:List (List Int)}(h:A5 all)(t:List Int):∀ i j (hi:i<all.length) (hj:j<all.length),i<j→aC all[j] t<0→aC all[i] t<0:=fun i j hi hj hij hlt=>by
 have h1:=zc9.1 h i j hi hj hij
 rcases ew all[i] all[j] with h2 | h2 | h2
 ·exact fB _ _ _ h2 hlt
 ·rw[h2]; exact hlt
 ·exact absurd h2 h1
theorem ii (all:List (List Int))(s:List Int)(j:Nat):bu all s (j+1)=bu all s j++iJ all s j:=by
 simp[bu,List.range_succ]
theorem fQ (all:List (List Int))(s:List Int)(j:Nat):(bu all s j).length≤j:=by
 induction j with
 | zero=>simp[bu]
 | succ j ih =>
  rw[ii,ze5];have:(iJ all s j).length≤1:=by unfold iJ; split <;> simp
  omega
theorem dE (all:List (List Int)):(bV all).length=all.length:=by simp[bV]
theorem lj {all:List (List Int)}{k:Nat}(h:k<all.length):(bV all)[k]?=some (m5 all (all[k],k)):=by
 simp[bV,h]
theorem pj {all:List (List Int)}(h:all.length≤4000)(hs:∀ x∈all,x.length≤9):a8 (bV all):=by
 refine⟨by rw[dE]; omega,fun c hc=>?_⟩;obtain ⟨p,hp,rfl⟩:=zf2.1 hc;have h1:p.1∈all:=by
  have:=List.mem_map_of_mem (f:=Prod.fst) hp;simpa using this
 have h2:=hs _ h1;have h3:=fQ all p.1 p.1.length;show (bu all p.1 p.1.length).length<_;omega
theorem CD (ls:List (List Int))(t:List Int):lbL ls t≤ls.length:=zc5 _ _
def svOf (v:Value):Sv:=match v with
 | .slice p n c=>⟨p,n,c⟩
 | _=>⟨none,0,0⟩
def j7 (c:Cl)(r:Rc):Prop:=r.id=c.id∧r.dim=c.dim∧r.sv.n=c.sides.length
def Bg (c:Cl)(r:Rc):Ent:=rowA encSide 56 (.slice r.sv.p r.sv.n r.sv.c) c.sides
def fI:List Cl→List Rc→Own
 | c::l,r::rs=>Bg c r::fI l rs
 | _,_=>[]
theorem ol:∀ {l:List Cl} {rs:List Rc} (c:Cl) (r:Rc),l.length=rs.length→fI (l++[c]) (rs++[r])=fI l rs++[Bg c r]
 | [],[],_,_,_=>rfl
 | x::l,y::rs,c,r,h=>by
  simp only[List.cons_append,fI];rw[ol c r (by simpa using h)]
 | [],_::_,_,_,h=>by simp at h
 | _::_,[],_,_,h=>by simp at h
theorem freezeO {E:World}{s:Own}{w:World}:∀ {l:List Cl} {rs:List Rc} {g:PH},az j7 l rs→At E g (fI l rs++s) w→∃ g',Le g g'∧At E g' s w∧az (ay g') l rs
 | [],[],g,_,h=>⟨g,zb8 g,h,trivial⟩
 | c::l,r::rs,g,h1,h=>by
  obtain ⟨g1,hl1,ha1,hs1⟩:=At.freezeRow h;obtain ⟨g2,hl2,ha2,hs2⟩:=freezeO h1.2 ha1;exact⟨g2,hl1.trans hl2,ha2,⟨h1.1.1,h1.1.2.1,za4 hs1 hl2⟩,hs2⟩
 | [],_::_,_,h1,_=>h1.elim
 | _::_,[],_,h1,_=>h1.elim
theorem Db (x y:Side)(w:World):(binOp .eql 56 (.agg (encSide.enc x).toArray)<|.agg (encSide.enc y).toArray).run Tryz.prog w = .ok (.bool<|decide (x=y)) w:=by
 have hu:Tryz.prog.underlying 56=some (.struct<|Tryz.prog.fieldsOf 56):=by kernel_rfl
 rw[run_eql_struct,run_equalIn_agg w 9999 56 _ _ hu stoodInHeld56]
 have hfs : ∃ f1 f2,(Tryz.prog.fieldsOf 56).toList = [f1,f2] ∧ f1.name ≠ "_" ∧ f2.name ≠ "_" ∧ f1.type = 3 ∧ f2.type = 3 ∧ f1.offset = 0 ∧ f2.offset = 1:=⟨_,_,rfl,by decide,by decide,rfl,rfl,rfl,rfl⟩
 obtain ⟨f1,f2,e,n1,n2,t1,t2,o1,o2⟩:=hfs;obtain ⟨a,b⟩:=x;obtain ⟨c,d⟩:=y;rw[e];have h1:=run_equalIn_int (P:=Tryz.prog) w 9998 3 .i64 .i64 a c uT3;have h2:=run_equalIn_int (P:=Tryz.prog) w 9998 3 .i64 .i64 b d uT3;simp only[Op.eqFields,n1,n2,t1,t2,o1,o2,encSide,part,ne_eq,not_false_eq_true,if_true,Sem.run_bind,iT3,zd1];simp[h1,h2];by_cases hac:a=c <;> by_cases hbd:b=d <;> simp[hac,hbd]
theorem SU.eqlSide {N:Nat}{f:Fr}{dst:Option Tmp}{ty:TypeId}{pos:String}{af:Array Edge}{gd:Option (Nat×Bool)}{x y:Operand}(a b:Side){U:TypeId}(hx:ev f x=some (.agg (encSide.enc a).toArray))(hy:ev f y=some (.agg (encSide.enc b).toArray)) :
  SU Tryz.prog N ⟨dst,.binOp .eql 56 x y U,ty,pos,af,gd⟩ f (.bool<|decide (a=b)):=fun ac w ha=>by
 have hg:=run_eqGuard_agg (P:=Tryz.prog) w .eql 56 x y (encSide.enc a).toArray (encSide.enc b).toArray eqGuardType56;simp only[execOp,ha.ev hx,ha.ev hy,Sem.run_bind,hg,zd1,Db];rfl
def jZ:List Cl:=[⟨1,0,[]⟩,⟨2,0,[]⟩,⟨3,0,[]⟩,⟨4,1,[⟨1,-1⟩,⟨2,1⟩]⟩,⟨5,1,[⟨1,-1⟩,⟨3,1⟩]⟩,⟨6,1,[⟨2,-1⟩,⟨3,1⟩]⟩,⟨7,2,[⟨4,1⟩,⟨5,-1⟩,⟨6,1⟩]⟩]
theorem Bu {l:List Int}(h:l.Pairwise (· ≤ ·)):tH l=l:=by
 unfold tH;exact List.mergeSort_of_pairwise (h.imp fun h=>by simpa using h)
theorem BC:eo [0,1,2]=[0,1,2]:=by
 unfold eo;rw[Bu dC];rfl
theorem Bv:fZ [[0,1,2]]=jZ:=by
 simp only[fZ,cE,BC];rfl
theorem zA:aq jZ=(0,0):=by kernel_rfl
theorem kS {l:List Cl}(h:(l.all fun c=>decide (c.sides.length<100))=true)(h2:l.length<100):a8 l:=by
 rw[zj9] at h;exact⟨oM,fun c hc=>by have:=h c hc; simp at this; omega⟩
theorem kM:a8 jZ:=kS dC dC
theorem az.cons_left {α β:Type}{R:α→β→Prop}{a:α}{l:List α}{m:List β}(h:az R (a::l) m):∃ b m',m=b::m'∧R a b∧az R l m':=by
 cases m with
 | nil=>exact h.elim
 | cons b m=>exact⟨b,m,rfl,h.1,h.2⟩
theorem az.nil_left {α β:Type}{R:α→β→Prop}{m:List β}(h:az R ([]:List α) m):m=[]:=by
 cases m with
 | nil=>rfl
 | cons b m=>exact h.elim
theorem dY {g:PH}{c:Cl}{r:Rc}(h:ay g c r):∃ p d,r=⟨c.id,c.dim,⟨p,c.sides.length,d⟩⟩∧SlA encSide g (.slice p c.sides.length d) c.sides:=by
 obtain ⟨i,dm,p,n,d⟩:=r;obtain ⟨h1,h2,h3⟩:=h;dsimp only at h1 h2 h3;have h4:=(SlA.cap h3).1;subst h1 h2 h4;exact⟨p,d,I,h3⟩
theorem Ar {α:Type}{key:α→Int}{l out:List α}{x:α}{k:Nat}(hs:Srt key out)(hst:aA key l out)(h1:∀ y∈out.take k,key y≤key x)(h2:∀ y∈out.drop k,key x<key y) :
  Srt key (out.take k++x::out.drop k)∧aA key (l++[x]) (out.take k++x::out.drop k):=by
 have hs':Srt key (out.take k++out.drop k):=by rw[zj2]; exact hs
 have h3:=Srt.append_iff.1 hs';refine⟨Srt.append_iff.2 ⟨h3.1,Srt.cons_iff.2 ⟨fun y hy=>Int.le_of_lt<|h2 y hy,h3.2.1⟩,fun y hy z hz=>?_⟩,?_⟩
 ·rcases zf1.1 hz with rfl | hz
  ·exact h1 y hy
  ·exact h3.2.2 y hy z hz
 ·have h4:aA key (l++[x]) (out++[x]):=hst.append<|aA.refl [x];have h5:aA key (out.drop k++[x]) ([x]++out.drop k):=aA.swap (fun y hy z hz=>by simp at hz; subst hz; have:=h2 y hy; omega);have h6:=aA.append (aA.refl (key:=key)<|out.take k) h5;have h7:out++[x]=out.take k++(out.drop k++[x]):=by rw[← zg8,zj2]
  rw[h7] at h4;simpa using h4.trans h6
theorem uE {α:Type}{key:α→Int}{out:List α}{c:Int}{k:Nat}(hs:Srt key out)(hk:k<out.length)(h:c<key out[k]):∀ y∈out.drop k,c<key y:=by
 rw[zg6 hk];intro y hy;have h1:Srt key (out.drop k):=List.Pairwise.sublist (List.drop_sublist k out) hs;rw[zg6 hk] at h1
 rcases zf1.1 hy with rfl | hy
 ·exact h
 ·have:=(Srt.cons_iff.1 h1).1 y hy;omega
theorem pR (E:World)(g:PH)(s:Own)(v:Value)(l:List Side)(hv:SlA encSide g v l)(hl:l.length<1099511627776) :
  Ctr Tryz.prog E 96 #[v] g s (fun r g' s'=>s=s'∧Le g g'∧SlA encSide g' r (sortBy Side.cell l)):=by
 obtain ⟨p,c,rfl⟩:=za3 hv;refine zb1 (args:=[.slice p l.length c]) func96 I ntmps96 (bE I)<|rZ<|aT I<|rZ<|aT I<|sQ<|rZ<|aT I<|bK<|SC.loop (ι:=PH×Value×List Side×Nat) (fun i=>[(0,.slice p l.length c),(3,i.2.1),(4,vi i.2.2.2)]) (fun i=>i.1) (fun _=>s)
  (fun i=>Le g i.1∧SlA encSide i.1 i.2.1 i.2.2.1∧i.2.2.2≤l.length∧Srt Side.cell i.2.2.1∧aA Side.cell (l.take i.2.2.2) i.2.2.1) (fun i=>l.length - i.2.2.2)
  (g,.slice none 0 0,[],0) sB rfl rfl ⟨zb8 g,zb9 g _,zf6 _,Srt.nil,aA.refl _⟩ ?_
 rintro ⟨g1,ov,out,i⟩ ⟨hle,hov,hi,hsrt,hst⟩;dsimp only at hle hov hi hsrt hst ⊢;have hol:out.length=i:=by have:=hst.1; rw[ze4] at this; omega
 obtain ⟨q,d,rfl⟩:=za3 hov;have hqc:=(SlA.cap hov).2;refine sQ<|sW I<|lM I<|lU (eN aI I)<|yL I<|tZ<|iP I (fun hlt=>?_) (fun hlt=>?_)
 ·have hil:i<l.length:=oM;have hb1:=za5 (hv.mono hle) oM;have hgi:l[((i:Nat):Int).toNat]?=some l[i]:=gE hil;have htk:l.take (i+1)=l.take i++[l[i]]:=tS hil;generalize l[i]=x at *;refine kP<|tN<|sQ<|bK<|rZ<|aT I<|SC.cut (ι:=Nat) (fun k=>[(0,.slice p l.length c),(3,.slice q out.length d),(4,vi i),(5,vi k)]) (fun _=>g1) (fun _=>s) (fun k=>k≤out.length∧(∀ y∈out.take k,y.cell≤x.cell)∧∀ y∈out.drop k,x.cell<y.cell) ?_ ?_
  ·refine bK<|SC.loop (ι:=Nat) (fun k=>[(0,.slice p l.length c),(3,.slice q out.length d),(4,vi i),(5,vi k)]) (fun _=>g1) (fun _=>s) (fun k=>k≤out.length∧∀ y∈out.take k,y.cell≤x.cell) (fun k=>out.length - k) 0
    sB rfl rfl ⟨zf6 _,by simp⟩ ?_
   rintro k ⟨hk,htake⟩;by_cases hin:(k:Int)<(out.length:Int)
   ·have hkl:k<out.length:=oM;have hb2:=za5 hov oM;have hd:decide ((k:Int)<(out.length:Int))=true:=zf8 hin;refine sQ<|sQ<|dW [] [(0,2),(1,2),(2,2),(3,2),(4,2),(5,2),(6,2),(7,2),(8,2),(9,1),(10,2),(11,2),(12,2),(13,2),(14,1),(15,2),(16,2)] ze3 kR<|yM I<|yM I<|pU I (eN aI I)<|pU I (SU.eq (lS I I)<|ze2 vb hd)<|yM I<|yJ I<|yJ I<|zb2 I (gT I I I dC) (iA aI aB I I hb2 oM sL) dC<|zb2 I (gT I I I dC) (fC co I zT3 I hb2) dC<|SP.gq I (gT I I I dC) (aZ (o:=0) iT3 I hov.rd (gE hkl) I) dC<|yJ I<|yJ I<|zb2 I (gT I I I dC) (iA aI aB I I hb1 oM sL) dC<|zb2 I (gT I I I dC) (fC co I zT3 I hb1) dC<|SP.gq I (gT I I I dC) (aZ (o:=0) iT3 I (hv.mono hle).rd hgi I) dC<|zb2 I (gT I I I dC) (SU.leq I I) dC<|pU I (wT I I)<|pN<|tN<|iP I (fun hc=>?_) (fun hc=>?_)
    ·refine kP (tN (bK (rG (lM I (yD I (lA I (nL (bN ?_))))))));exact ST.again (k+1) sB I I ⟨oM,by
      rw[tS hkl];intro y hy
      rcases zf3.1 hy with h | h
      ·exact htake y h
      ·simp at h; subst h; exact hc⟩ oM
    ·exact xI<|tX<|tX<|bX<|za8 k sB I I ⟨hk,htake,uE hsrt hkl oM⟩
   ·have hd:decide ((k:Int)<(out.length:Int))=false:=zf7 hin;exact sQ<|sQ<|dW [] [(0,2),(1,2),(2,2),(3,2),(4,2),(5,2),(6,2),(7,2),(8,2),(9,1),(10,2),(11,2),(12,2),(13,2),(14,1),(15,2),(16,2)] ze3 kR<|yM I<|yM I<|pU I (eN aI I)<|pU I (SU.eq (lS I I)<|ze2 vb hd)<|yM I<|yG I<|yG I<|yG I<|yG I<|yI I<|yG I<|yG I<|yG I<|yG I<|yI I<|yG I<|pU I (wF I I)<|pN<|tN<|cF I<|xI<|tX<|tX<|bX<|za8 k sB I I ⟨hk,htake,by rw[List.drop_eq_nil_of_le oM]; simp⟩
  ·rintro k ⟨hk,hk1,hk2⟩;have hnew:=Ar hsrt hst hk1 hk2;have hc1:=SlA.cut hov (l:=k) (m:=out.length) hk<|lR _;have hc2:=SlA.cut hov (l:=0) (m:=k) (zf6 _) hk;rw[tL (by rw[ze9]; exact lR _)] at hc1;rw[List.drop_zero,Nat.sub_zero] at hc2;refine sQ<|dW [8] [(0,2),(1,2),(2,2),(3,1),(5,2),(6,2),(7,2),(4,0),(8,0),(9,2)] ze3 kR<|yM I<|yM I<|pU I (iA aI aB I I hb1 oM sL)<|pK I (eA dT aB I (hv.mono hle).rd hgi)<|yM I<|yM I<|pU I (SU.sliceL aI aB I I oM oM)<|SP.o I (bS sty37 I I I (ab ⟨I,trivial⟩) dC) dC (.inr iR) ?_;rintro _ _ _ ⟨b36,rfl,rfl,rfl⟩;refine SP.to (fun w hw=>At.litRow (e:=encSide) (l:=[x]) (n:=0) hw I I dC) ?_;refine SP.o I (aQ (e:=encSide) 0 sty37 I I I hc1 (by rw[ze9]; (first | with_reducible rfl | ((try dsimp only); (try simp only[ze5,ze8,zc4,ze7,ze4,ze9])<;>omega))) (by rw[ze9]; (first | with_reducible rfl | ((try dsimp only); (try simp only[ze5,ze8,zc4,ze7,ze4,ze9])<;>omega)))) dC (.inl dC) ?_;rintro v40 _ _ ⟨rfl,rfl⟩;refine pU I (aS I) (pN<|tN<|fS fun g2 hle2 hs2=>?_);have hrest:SlA encSide g2 v40 ([x]++out.drop k):=hs2;refine rG<|lW (bS sty37 I I I (ab trivial) dC) ?_;rintro _ _ _ ⟨b41,rfl,rfl,rfl⟩;refine SL.emptyRow 56 2 (some ⟨b41,0,none⟩)<|lM I<|lM I<|lU (SU.sliceH aI aB I I oM oM)<|lW (aQ (e:=encSide) (l:=[]) 0 sty37 I I I (hc2.mono hle2) (by rw[ze4]; (first | with_reducible rfl | ((try dsimp only); (try simp only[ze5,ze8,zc4,ze7,ze4,ze9])<;>omega))) (by rw[ze4]; (first | with_reducible rfl | ((try dsimp only); (try simp only[ze5,ze8,zc4,ze7,ze4,ze9])<;>omega)))) ?_;rintro v45 _ _ ⟨rfl,rfl⟩;refine lM I<|lW (aQ (e:=encSide) 0 sty37 I I I hrest lN lN) ?_;rintro v47 _ _ ⟨rfl,rfl⟩;refine lA I (nL<|bN<|tN<|rG<|lM I<|yD I<|lA I<|nL<|fT fun g3 hle3 hs3=>?_);refine dR (s':=s) uR ?_;have hres:SlA encSide g3 v47 (out.take k++x::out.drop k):=by have h:SlA encSide g3 v47 ([]++out.take k++([x]++out.drop k)):=hs3; simpa using h
   exact ST.again (g3,v47,out.take k++x::out.drop k,i+1) sB I I ⟨hle.trans<|hle2.trans hle3,hres,lN,hnew.1,by dsimp only; rw[htk]; exact hnew.2⟩ lN
 ·have hii:l.take i=l:=tL oM;rw[hii] at hst;exact xI<|tX<|tX<|bX<|tN<|sW I<|aT I<|rE<|za7 (.inl I) results96 I ⟨I,hle,by rw[← bG hsrt hst]; exact hov⟩
theorem az.drop {α β:Type}{R:α→β→Prop}:∀ {l:List α} {m:List β} (k:Nat),az R l m→az R (l.drop k) (m.drop k)
 | _,_,0,h=>by simpa using h
 | [],[],k+1,_=>trivial
 | _::_,_::_,k+1,h=>by simpa using az.drop k h.2
 | [],_::_,_+1,h=>h.elim
 | _::_,[],_+1,h=>h.elim
theorem az.take {α β:Type}{R:α→β→Prop}:∀ {l:List α} {m:List β} (k:Nat),az R l m→az R (l.take k) (m.take k)
 | _,_,0,_=>by simp; trivial
 | [],[],k+1,_=>trivial
 | _::_,_::_,k+1,h=>⟨h.1,az.take k h.2⟩
 | [],_::_,_+1,h=>h.elim
 | _::_,[],_+1,h=>h.elim
theorem ak.cut {g:PH}{p:Option Addr}{c a b n:Nat}{l:List Cl}(h:ak g (.slice p n c) l)(ha:a≤b)(hb:b≤l.length):ak g (sliced p a b c 3) ((l.drop a).take<|b - a):=by
 obtain ⟨rs,h1,h2⟩:=h;have hl:=h2.length;have hn:=(SlA.cap h1).1;subst hn;exact⟨_,SlA.cut h1 ha oM,az.take (b - a)<|az.drop a h2⟩
theorem ak.cap {g:PH}{p:Option Addr}{c n:Nat}{l:List Cl}(h:ak g (.slice p n c) l):n=l.length∧l.length≤c:=by
 obtain ⟨rs,h1,h2⟩:=h;have:=SlA.cap h1;rw[h2.length];exact⟨this.1,this.2⟩
theorem me (l:List Cl):aa l=sortBy Cl.id (l.map dn):=by
 unfold aa;rw[ma];rfl
theorem gi (l:List Cl):Srt Cl.id (aa l):=by rw[me]; exact ck _
theorem oK (l:List Cl):aA Cl.id (l.map dn) (aa l):=by rw[me]; exact dP _
theorem Tryz.buildF54 (x y:Int)(v:Value)(hv:v.cells = #[v])(w:World):(Instr.build 54 #[(0,vi x),(1,vi y),(2,v)]).run Tryz.prog w = .ok (.agg #[vi x,vi y,v]) w:=by
 have hz:(Value.agg #[vi 0,vi 0,Value.slice none 0 0]).cells = #[vi 0,vi 0,.slice none 0 0]:=rfl;have h1:(vi x).cells = #[vi x]:=rfl;have h2:(vi y).cells = #[vi y]:=rfl;simp[Instr.build,Instr.fill,hv,hz,h1,h2]
theorem la (n:Nat)(h:n<4611686018427387904):IntKind.i64.wrap (((n:Nat):Int).tdiv 2)=((n / 2:Nat):Int):=by
 have h1:((n:Nat):Int).tdiv 2=((n / 2:Nat):Int):=by
  rw[Int.tdiv_eq_ediv_of_nonneg oM]; simp
 rw[h1,zk9 _ oM]
theorem jN (E:World):∀ (n:Nat) (g:PH) (s:Own) (v:Value) (l:List Cl),l.length≤n→ak g v l→a8 l →
  Ctr Tryz.prog E 71 #[v] g s (fun r g' s'=>s=s'∧Le g g'∧ak g' r (aa l)):=by
 intro n;induction n with
 | zero =>
  intro g s v l hn hv hf;have hl0:l=[]:=zf4 oM;subst hl0;obtain ⟨p,c,rfl⟩:=hv.form;refine zb1 (args:=[.slice p 0 c]) func71 I ntmps71 (bE I)<|rZ<|aT I<|sQ<|sW I<|lU (eN aF I)<|yE I<|tZ<|iP I (fun h0=>?_) (fun h0=>?_)
  ·exact rZ<|aT I<|rE<|tR<|za7 (.inl I) results71 I ⟨I,zb8 g,[],zb9 g _,trivial⟩
  ·exact absurd I h0
 | succ n ih =>
  intro g s v l hn hv hf;obtain ⟨rs,hrs,hall⟩:=hv;have hv:ak g v l:=⟨rs,hrs,hall⟩;have hlen:=hall.length;have hfl:=hf.1;obtain ⟨p,c,rfl⟩:=hv.form;have hcap:=(ak.cap hv).2;refine zb1 (args:=[.slice p l.length c]) func71 I ntmps71 (bE I)<|rZ<|aT I<|sQ<|sW I<|lU (eN aF I)<|yE I<|tZ<|iP I (fun h0=>?_) (fun h0=>?_)
  ·have hl0:l=[]:=zf4 oM;subst hl0;exact rZ<|aT I<|rE<|tR<|za7 (.inl I) results71 I ⟨I,zb8 g,[],zb9 g _,trivial⟩
  ·refine kP<|tN<|sQ<|sW I<|lU (eN aF I)<|yE I<|tZ<|iP I (fun h1=>?_) (fun h1=>?_)
   ·obtain ⟨x,hx⟩:∃ x,l=[x]:=by
     match l,h1 with
     | [x],_=>exact⟨x,rfl⟩
     | [],h=>simp at h
     | _::_::_,h=>simp at h; omega
    subst hx;obtain ⟨r,rs',rfl,hr,hn'⟩:=az.cons_left hall;have hrs0:=az.nil_left hn';subst hrs0;obtain ⟨rp,rd,rfl,hsd⟩:=dY hr;have hb1:=hrs.based (by simp);have hxl:=hf.2 x (by simp);refine sQ<|dW [] [(0,2),(1,2),(2,2),(3,1),(4,2),(5,2),(6,2),(7,1),(8,2),(9,2),(10,2),(11,1),(12,0),(13,2),(14,0),(15,2)] ze3 kR<|yM I<|pU I (iA aF au I I hb1 dC (show (0:Int)<((1:Nat):Int) by decide)) ?_;refine pU I (fC aw I zT3 I hb1)<|pK I (aZ (e:=encCell) (o:=0) (j:=0) (u:=vi x.id) iT3 I hrs.rd I I)<|yM I<|pU I (iA aF au I I hb1 dC (show (0:Int)<((1:Nat):Int) by decide)) ?_;refine pU I (fC aw I zT3 I hb1)<|pK I (aZ (e:=encCell) (o:=1) (j:=0) (u:=vi x.dim) iT3 I hrs.rd I I)<|yM I<|pU I (iA aF au I I hb1 dC (show (0:Int)<((1:Nat):Int) by decide)) ?_;refine pU I (fC aw I aO I hb1)<|pK I (aZ (e:=encCell) (o:=2) (j:=0) (u:=.slice rp x.sides.length rd) bh I hrs.rd I I)<|SP.o I (SO.call call96 I<|pR E g _ _ x.sides hsd hxl) dC (.inr iR) ?_;rintro v24 g1 _ ⟨rfl,hle1,hs1⟩;obtain ⟨q,d,rfl⟩:=za3 hs1;refine pU I (za2 I<|buildF54 _ _ _ I)<|SP.o I (bS sty27 I I I (ab sB) dC) dC (.inr iR) ?_;rintro _ _ _ ⟨b26,rfl,rfl,rfl⟩;refine pU I (aS I) (pN<|tN<|rE<|tR<|ST.freeze fun g2 hle2 hb=>?_);exact za7 (.inl I) results71 I ⟨I,hle1.trans hle2,[⟨x.id,x.dim,⟨q,(sortBy Side.cell x.sides).length,d⟩⟩],SlA.lit hb I I,⟨⟨I,I,hs1.mono hle2⟩,trivial⟩⟩
   ·have hm1:l.length / 2<l.length:=oM;have hm0:0<l.length / 2:=oM;have hc1:=ak.cut hv (a:=0) (b:=l.length / 2) oM oM;have hc2:=ak.cut hv (a:=l.length / 2) (b:=l.length) oM oM;rw[List.drop_zero,Nat.sub_zero] at hc1;rw[tL (by rw[ze9]; exact lR _)] at hc2;have hf1:a8 (l.take<|l.length / 2):=⟨by rw[ze4]; omega,fun c hc=>hf.2 c<|List.mem_of_mem_take hc⟩;have hf2:a8 (l.drop<|l.length / 2):=⟨by rw[ze9]; omega,fun c hc=>hf.2 c<|List.mem_of_mem_drop hc⟩;have hca:=aN<|l.take<|l.length / 2;have hcb:=aN<|l.drop<|l.length / 2;have hsa:=gi<|l.take<|l.length / 2;have hsb:=gi<|l.drop<|l.length / 2;have hst:aA Cl.id (l.map dn) (aa (l.take<|l.length / 2)++aa (l.drop<|l.length / 2)):=by
     have h2:=(oK<|l.take<|l.length / 2).append<|oK<|l.drop<|l.length / 2;rwa [← zg5,zj2] at h2
    rw[ze4] at hca;rw[ze9] at hcb;refine kP<|tN<|sW I<|lM I<|lU (eN aF I)<|lU (SU.eq (v':=vi ((l.length / 2:Nat):Int)) (SU.quo I I dC)<|ze2 vi<|la _ oM)<|lU (SU.sliceH aF au I I oM oM)<|lW (SO.call call71 I<|ih g _ _ (l.take<|l.length / 2) (by rw[ze4]; omega) hc1 hf1) ?_;rintro va0 g1 _ ⟨rfl,hle1,hA⟩;refine aT I<|sW I<|lM I<|lU (eN aF I)<|lU (SU.eq (v':=vi ((l.length / 2:Nat):Int)) (SU.quo I I dC)<|ze2 vi<|la _ oM)<|lU (SU.sliceL aF au I I oM oM)<|lW (SO.call call71 I<|ih g1 _ _ (l.drop<|l.length / 2) (by rw[ze9]; omega) (hc2.mono hle1) hf2) ?_;rintro vb0 g2 _ ⟨rfl,hle2,hB⟩;refine aT I<|rZ<|aT I ?_;generalize hA0:aa (l.take<|l.length / 2)=A0 at *;generalize hB0:aa (l.drop<|l.length / 2)=B0 at *;refine zb5 54 3<|SC.cut (ι:=Value×Value×Value×List Cl×List Cl×List Cl×List Rc) (fun i=>[(3,i.1),(4,i.2.1),(5,i.2.2.1)]) (fun _=>g2) (fun i=>rowA encCell 54 i.2.2.1 i.2.2.2.2.2.2::s)
     (fun i=>ak g2 i.1 i.2.2.2.1∧ak g2 i.2.1 i.2.2.2.2.1∧az (ay g2) i.2.2.2.2.2.1 i.2.2.2.2.2.2∧i.2.2.2.2.2.1++i.2.2.2.1++i.2.2.2.2.1=aa l) ?_ ?_
    ·refine bK<|SC.loop (ι:=Value×Value×Value×List Cl×List Cl×List Cl×List Cl×List Cl×List Rc) (fun i=>[(3,i.1),(4,i.2.1),(5,i.2.2.1)]) (fun _=>g2) (fun i=>rowA encCell 54 i.2.2.1 i.2.2.2.2.2.2.2.2::s)
      (fun i=>(ak g2 i.1 i.2.2.2.2.1∧ak g2 i.2.1 i.2.2.2.2.2.2.1)∧az (ay g2) i.2.2.2.2.2.2.2.1 i.2.2.2.2.2.2.2.2∧A0=i.2.2.2.1++i.2.2.2.2.1∧B0=i.2.2.2.2.2.1++i.2.2.2.2.2.2.1∧Srt Cl.id i.2.2.2.2.2.2.2.1∧aA Cl.id (i.2.2.2.1++i.2.2.2.2.2.1) i.2.2.2.2.2.2.2.1 ∧
       (∀ y∈i.2.2.2.2.2.2.2.1,∀ z∈i.2.2.2.2.1++i.2.2.2.2.2.2.1,y.id≤z.id)∧(∀ y∈i.2.2.2.2.2.1,∀ z∈i.2.2.2.2.1,y.id<z.id)) (fun i=>i.2.2.2.2.1.length+i.2.2.2.2.2.2.1.length)
      (va0,vb0,.slice none 0 0,[],A0,[],B0,[],[]) sB rfl rfl ⟨⟨hA.mono hle2,hB⟩,trivial,rfl,rfl,Srt.nil,aA.refl _,by simp,by simp⟩ ?_
     rintro ⟨va,vb1,vo,A1,A2,B1,B2,out,ro⟩ ⟨⟨hva,hvb⟩,hro,hA',hB',hso,hto,hout,hlt⟩;dsimp only at hva hvb hro hA' hB' hso hto hout hlt ⊢;have hol:out.length=A1.length+B1.length:=by have:=hto.1; simpa using this
     have hrol:=hro.length;have hAl:A0.length=A1.length+A2.length:=by rw[hA']; simp
     have hBl:B0.length=B1.length+B2.length:=by rw[hB']; simp
     rw[hA'] at hsa;rw[hB'] at hsb;have hsa2:=(Srt.append_iff.1 hsa).2.1;have hsb2:=(Srt.append_iff.1 hsb).2.1;obtain ⟨pa,ca,rfl⟩:=hva.form;obtain ⟨pb,cb,rfl⟩:=hvb.form;have hcapa:=(ak.cap hva).2;have hcapb:=(ak.cap hvb).2;have hfin:A2=[]∨B2=[]→out++A2++B2=aa l:=fun h=>by
      rw[me];refine bG ?_ ?_
      ·rw[zg8];refine Srt.append_iff.2 ⟨hso,?_,hout⟩
       rcases h with rfl | rfl
       ·simpa using hsb2
       ·simpa using hsa2
      ·refine hst.trans ?_;rw[hA',hB']
       rcases h with rfl | rfl
       ·have h2:=hto.append<|aA.refl (key:=Cl.id) B2;simpa using h2
       ·have h3:aA Cl.id (A2++B1) (B1++A2):=aA.swap (fun x hx y hy=>by have:=hlt y hy x hx; omega);have h4:=(aA.refl (key:=Cl.id) A1).append h3;have h5:=hto.append<|aA.refl (key:=Cl.id) A2;simp only[zc6,zg8] at h4 h5 ⊢;exact h4.trans h5
     cases A2 with
     | nil =>
      exact sQ<|sW I<|lU (eN aF I)<|lU (SU.eq (v':=vb false) (gR I I) I)<|lM I<|yA I<|yA I<|yA I<|yF I<|tZ<|cF I<|xI<|tX<|tX<|bX<|za8 (_,_,vo,[],B2,out,ro) sB I I ⟨hva,hvb,hro,hfin<|.inl I⟩
     | cons x A3 =>
      have hpa:(0:Int)<((x::A3).length:Int):=by simp
      cases B2 with
      | nil =>
       exact sQ<|sW I<|lU (eN aF I)<|lU (SU.eq (v':=vb true) (gR I I)<|ze2 vb<|zf8 hpa)<|lM I<|yC I<|lY I I I (eN aF I)<|lY I I I (SU.eq (v':=vb false) (gR I I) I)<|yP I<|tZ<|cF I<|xI<|tX<|tX<|bX<|za8 (_,_,vo,x::A3,[],out,ro) sB I I ⟨hva,hvb,hro,hfin<|.inr I⟩
      | cons y B3 =>
       have hpb:(0:Int)<((y::B3).length:Int):=by simp
       obtain ⟨ra,hra,halla⟩:=hva;obtain ⟨rb,hrb,hallb⟩:=hvb;have hva:ak g2 _ (x::A3):=⟨ra,hra,halla⟩;have hvb:ak g2 _ (y::B3):=⟨rb,hrb,hallb⟩;have hna:=ak.cut hva (a:=1) (b:=(x::A3).length) (by simp)<|lR _;have hnb:=ak.cut hvb (a:=1) (b:=(y::B3).length) (by simp)<|lR _;have hda:((x::A3).drop 1).take ((x::A3).length - 1)=A3:=by simp
       have hdb:((y::B3).drop 1).take ((y::B3).length - 1)=B3:=by simp
       rw[hda] at hna;rw[hdb] at hnb;obtain ⟨x',ra',rfl,hx,_⟩:=az.cons_left halla;obtain ⟨y',rb',rfl,hy,_⟩:=az.cons_left hallb;have hba:=hra.based (by simp);have hbb:=hrb.based (by simp);have hlen3:A3.length+1+(B3.length+1)+out.length≤l.length:=by simp only[ze8] at hAl hBl; omega
       refine sQ<|sW I<|lU (eN aF I)<|lU (SU.eq (v':=vb true) (gR I I)<|ze2 vb<|zf8 hpa)<|lM I<|yC I<|lY I I I (eN aF I)<|lY I I I (SU.eq (v':=vb true) (gR I I)<|ze2 vb<|zf8 hpb)<|yP I<|tZ<|za1 I<|kP<|tN<|bK<|sQ<|dW [] [(0,2),(1,2),(2,2),(3,1),(4,2),(5,2),(6,2),(7,1),(8,2)] ze3 kR<|yM I<|pU I (iA aF au I I hbb dC hpb)<|pU I (fC aw I zT3 I hbb)<|pK I (aZ (e:=encCell) (o:=0) (j:=0) (u:=vi y'.id) iT3 I hrb.rd I I)<|yM I<|pU I (iA aF au I I hba dC hpa)<|pU I (fC aw I zT3 I hba)<|pK I (aZ (e:=encCell) (o:=0) (j:=0) (u:=vi x'.id) iT3 I hra.rd I I)<|pU I (lS I I)<|pN<|tN<|iP I (fun hc=>?_) (fun hc=>?_)
       ·refine sW I<|lM I<|lU (iA aF au I I hbb dC hpb)<|lK (eA (e:=encCell) (a:=y') (j:=0) bQ au I hrb.rd I)<|lW (bS sty27 I I I (ab sB) dC) ?_;rintro _ _ _ ⟨b60,rfl,rfl,rfl⟩;refine lW (aP (e:=encCell) 0 y' sty27 I I I I I oM oM) ?_;rintro v61 _ _ ⟨rfl,rfl⟩;refine aT I<|rG<|lM I<|lU (SU.sliceL aF au I I dC (by simp only[ze8]; omega)) ?_;refine lA I<|nL<|bN ?_;rw[hx.1,hy.1] at hc;refine ST.again (_,_,v61,A1,x::A3,B1++[y],B3,out++[y],ro++[y']) sB I I ⟨⟨hva,hnb⟩,hro.append ⟨hy,trivial⟩,hA',by rw[hB']; simp,?_,?_,?_,?_⟩ lN
        ·refine Srt.append_iff.2 ⟨hso,Srt.one y,fun a ha b hb=>?_⟩;simp at hb; subst hb; exact hout a ha b (by simp)
        ·have h2:=hto.append<|aA.refl (key:=Cl.id) [y];simpa using h2
        ·intro a ha b hb;dsimp only at ha hb
         rcases zf3.1 ha with ha | ha
         ·refine hout a ha b ?_;simp at hb ⊢
          rcases hb with h | h | h
          ·exact .inl h
          ·exact .inr<|.inl h
          ·exact .inr<|.inr<|.inr h
         ·simp at ha; subst ha
          rcases zf3.1 hb with hb | hb
          ·rcases zf1.1 hb with rfl | hb
           ·omega
           ·have:=(Srt.cons_iff.1 hsa2).1 b hb; omega
          ·exact (Srt.cons_iff.1 hsb2).1 b hb
        ·intro a ha b hb;dsimp only at ha hb
         rcases zf3.1 ha with ha | ha
         ·exact hlt a ha b hb
         ·simp at ha; subst ha
          rcases zf1.1 hb with rfl | hb
          ·omega
          ·have:=(Srt.cons_iff.1 hsa2).1 b hb; omega
       ·refine sW I<|lM I<|lU (iA aF au I I hba dC hpa)<|lK (eA (e:=encCell) (a:=x') (j:=0) bQ au I hra.rd I)<|lW (bS sty27 I I I (ab sB) dC) ?_;rintro _ _ _ ⟨b68,rfl,rfl,rfl⟩;refine lW (aP (e:=encCell) 0 x' sty27 I I I I I oM oM) ?_;rintro v69 _ _ ⟨rfl,rfl⟩;refine aT I<|rG<|lM I<|lU (SU.sliceL aF au I I dC (by simp only[ze8]; omega)) ?_;refine lA I<|nL<|bN ?_;rw[hx.1,hy.1] at hc;refine ST.again (_,_,v69,A1++[x],A3,B1,y::B3,out++[x],ro++[x']) sB I I ⟨⟨hna,hvb⟩,hro.append ⟨hx,trivial⟩,by rw[hA']; simp,hB',?_,?_,?_,?_⟩ lN
        ·refine Srt.append_iff.2 ⟨hso,Srt.one x,fun a ha b hb=>?_⟩;simp at hb; subst hb; exact hout a ha b (by simp)
        ·have h2:aA Cl.id ([x]++B1) (B1++[x]):=aA.swap (fun a ha b hb=>by simp at ha; subst ha; have:=hlt b hb a (by simp); omega);have h3:=(aA.refl (key:=Cl.id) A1).append h2;have h4:=hto.append<|aA.refl (key:=Cl.id) [x];dsimp only;simp only[zg8] at h3 h4 ⊢;exact h3.trans h4
        ·intro a ha b hb;dsimp only at ha hb
         rcases zf3.1 ha with ha | ha
         ·refine hout a ha b ?_;simp at hb ⊢
          rcases hb with h | h | h
          ·exact .inr<|.inl h
          ·exact .inr<|.inr<|.inl h
          ·exact .inr<|.inr<|.inr h
         ·simp at ha; subst ha
          rcases zf3.1 hb with hb | hb
          ·exact (Srt.cons_iff.1 hsa2).1 b hb
          ·rcases zf1.1 hb with rfl | hb
           ·omega
           ·have:=(Srt.cons_iff.1 hsb2).1 b hb; omega
        ·intro a ha b hb;exact hlt a ha b (by simp[hb])
    ·rintro ⟨va,vb1,vo,A2,B2,out,ro⟩ ⟨hva,hvb,hro,hres⟩;dsimp only at hva hvb hro hres ⊢;obtain ⟨ra,hra,halla⟩:=hva;obtain ⟨rb,hrb,hallb⟩:=hvb;have hl1:=ze2 List.length hres;rw[aN] at hl1;simp only[ze5] at hl1;have e1:=hro.length;have e2:=halla.length;have e3:=hallb.length;refine sW I<|lM I<|lW (aQ (e:=encCell) 0 sty27 I I I hra oM oM) ?_;rintro v74 _ _ ⟨rfl,rfl⟩;refine lM I<|lW (aQ (e:=encCell) 0 sty27 I I I hrb lN lN) ?_;rintro v76 _ _ ⟨rfl,rfl⟩;refine aT I (rE<|fT fun g3 hle3 hs3=>?_);exact za7 (.inl I) results71 I ⟨I,hle1.trans<|hle2.trans hle3,ro++ra++rb,hs3,by rw[← hres]; exact (((hro.append halla).append hallb).mono fun _ _=>ay.mono hle3)⟩
theorem dZ (E:World)(g:PH)(s:Own)(v:Value)(l:List Cl)(hv:ak g v l)(hf:a8 l) :
  Ctr Tryz.prog E 47 #[.agg #[v]] g s (fun r g' s'=>s=s'∧Le g g'∧∃ u,r = .agg #[u]∧ak g' u (aa l)):=by
 obtain ⟨p,c,rfl⟩:=hv.form;refine zb1 (args:=[.agg #[.slice p l.length c]]) func47 I ntmps47 (bE I)<|rZ (bW (bO I) fun b1=>?_);refine bW (aL zl6) fun b2=>tZ<|rZ<|lU (fA du I di I)<|lK (qL dU I<|cO 1 I I)<|lW (SO.call call71 I<|jN E l.length g _ _ l (lR _) hv hf) ?_;rintro v5 g1 _ ⟨rfl,hle,h5⟩;obtain ⟨q,d,rfl⟩:=h5.form;exact lU (za2 I<|build29 _ I)<|oZ (sK 0 ag I I I I I sB)<|tZ<|rE<|ST.retCD 0 s (.inl I) results47 I ar ag I I uR ⟨I,hle,_,I,h5⟩
theorem rQ (E:World)(g:PH)(s:Own)(a b:Cl)(ra rb:Rc)(ha:ay g a ra)(hb:ay g b rb)(hl:a.sides.length<1099511627776) :
  Ctr Tryz.prog E 48 #[rcv ra,rcv rb] g s (fun r g' s'=>r=vb (decide (a=b))∧g=g'∧s=s'):=by
 obtain ⟨p,c,rfl,hsa⟩:=dY ha;obtain ⟨q,d,rfl,hsb⟩:=dY hb;have f1:a.id≠b.id→(decide (a.id≠b.id)||decide (a.dim≠b.dim)||decide ((a.sides.length:Int)≠b.sides.length))=true:=fun h=>by simp[h]
 have f2:¬ a.id≠b.id→a.dim≠b.dim→(decide (a.id≠b.id)||decide (a.dim≠b.dim)||decide ((a.sides.length:Int)≠b.sides.length))=true:=fun h h2=>by simp[h,h2]
 have f3:¬ a.id≠b.id→¬ a.dim≠b.dim→(decide (a.id≠b.id)||decide (a.dim≠b.dim)||decide ((a.sides.length:Int)≠b.sides.length))=decide ((a.sides.length:Int)≠b.sides.length):=fun h h2=>by simp[h,h2]
 refine zb1 (args:=[.agg #[vi a.id,vi a.dim,.slice p a.sides.length c],.agg #[vi b.id,vi b.dim,.slice q b.sides.length d]]) func48 I ntmps48 (bE I)<|rZ (bW (bO I) fun b2=>?_);refine bW (bO I) fun b3=>aT I<|sQ ?_;refine SC.to (g':=g) (s':=pt b3 (.cells #[vi b.id,vi b.dim,.slice q b.sides.length d] 54 (0,0))::pt b2 (.cells #[vi a.id,vi a.dim,.slice p a.sides.length c] 54 (0,0))::s) (fun w hw=>hw) ?_;refine SC.cutB 26 ((decide (a.id≠b.id)||decide (a.dim≠b.dim)||decide ((a.sides.length:Int)≠b.sides.length))) ?_ ?_
 ·refine rG<|lU (fA aw I zT3 I)<|lK (qL (v:=vi a.id) iT3 I<|cO 1 I I)<|lU (fA aw I zT3 I)<|lK (qL (v:=vi b.id) iT3 I<|cO 0 I I)<|lU (nQ I I)<|lM I<|sP ?_ ?_
  ·intro h11;exact yA I<|yA I<|yA I<|yA I<|yA I<|yP I<|lM I<|yA I<|yA I<|yA I<|yA I<|yA I<|yA I<|yA I<|yP I<|nL<|za9 (by (rw[f1 h11]; rfl)) mI
  ·intro h11;refine lY I I I (fA aw I zT3 I)<|SL.gq (gT I I I dC) (qL (v:=vi a.dim) iT3 I<|cO 1 I I) dC<|lY I I I (fA aw I zT3 I)<|SL.gq (gT I I I dC) (qL (v:=vi b.dim) iT3 I<|cO 0 I I) dC<|lY I I I (nQ I I)<|yF I<|lM I<|sP ?_ ?_
   ·intro h18;exact yA I<|yA I<|yA I<|yA I<|yA I<|yA I<|yA I<|yP I<|nL<|za9 (by (rw[f2 h11 h18]; rfl)) mI
   ·intro h18;exact lY I I I (fA aw I aO I)<|SL.gq (gT I I I dC) (qL (v:=.slice p a.sides.length c) bh I<|cO 1 I I) dC<|lY I I I (eN aI I)<|lY I I I (fA aw I aO I)<|SL.gq (gT I I I dC) (qL (v:=.slice q b.sides.length d) bh I<|cO 0 I I) dC<|lY I I I (eN aI I)<|lY I I I (nQ I I)<|yF I<|nL<|za9 (by (rw[f3 h11 h18]; rfl)) mI
 refine iQ I (fun hbad=>?_) (fun hbad=>?_)
 ·exact rZ<|aT I<|rE<|tR<|dR (s':=s) uR<|za7 (.inl I) results48 I ⟨ze2 vb<|Eq.symm (zf7 fun e=>by rw[e] at hbad; simp at hbad),I,I⟩
 ·have hid:a.id=b.id:=by simp at hbad; exact hbad.1.1
  have hdim:a.dim=b.dim:=by simp at hbad; exact hbad.1.2
  have hln:a.sides.length=b.sides.length:=by simp at hbad; omega
  refine kP<|tN<|sQ<|rZ<|aT I<|bK<|SC.loop (ι:=Nat) (fun k=>[(2,pp b2 0),(3,pp b3 0),(5,vi k)]) (fun _=>g) (fun _=>pt b3 (.cells #[vi b.id,vi b.dim,.slice q b.sides.length d] 54 (0,0))::pt b2 (.cells #[vi a.id,vi a.dim,.slice p a.sides.length c] 54 (0,0))::s) (fun k=>k≤a.sides.length∧a.sides.take k=b.sides.take k) (fun k=>a.sides.length - k) 0
   sB rfl rfl ⟨zf6 _,by simp⟩ ?_
  rintro k ⟨hk,heq⟩;refine sQ<|sW I<|lU (fA aw I aO I)<|lK (qL (v:=.slice p a.sides.length c) bh I<|cO 1 I I)<|lU (eN aI I)<|yL I<|tZ<|iP I (fun hlt=>?_) (fun hlt=>?_)
  ·have hka:k<a.sides.length:=oM;have hkb:k<b.sides.length:=oM;have hb1:=hsa.based oM;have hb2:=hsb.based oM;refine kP<|tN<|sQ<|bK<|sQ<|dW [] [(0,2),(1,1),(2,2),(3,2),(4,1),(5,2),(6,1),(7,2),(8,2),(9,1),(10,2)] ze3 kR<|pU I (fA aw I aO I)<|pK I (qL (v:=.slice p a.sides.length c) bh I<|cO 1 I I)<|yM I<|pU I (iA aI aB I I hb1 oM sL)<|pQ I (eA dT aB I hsa.rd<|gE hka) dC<|pU I (fA aw I aO I)<|pK I (qL (v:=.slice q b.sides.length d) bh I<|cO 0 I I)<|yM I<|pU I (iA aI aB I I hb2 oM sL)<|pQ I (eA dT aB I hsb.rd<|gE hkb) dC<|pU I (SU.neqSide I I)<|pN<|tN<|iP I (fun hne=>?_) (fun hne=>?_)
   ·exact rZ<|aT I<|rE<|bR<|tR<|tR<|bR<|tR<|dR (s':=s) uR<|za7 (.inl I) results48 I ⟨ze2 vb (Eq.symm<|zf7 fun e=>hne<|by simp[e]),I,I⟩
   ·exact kP<|bN<|tN<|rG<|lM I<|yD I<|lA I<|nL<|ST.again (k+1) sB I I ⟨oM,fE hka hkb heq<|zg9 hne⟩ oM
  ·have hkk:k=a.sides.length:=oM;subst hkk;have hs:=gy hln heq;exact xI<|tX<|tX<|bX<|tN<|rZ<|aT I<|rE<|dR (s':=s) uR<|za7 (.inl I) results48 I ⟨ze2 vb<|Eq.symm<|zf8<|EO.2 ⟨hid,hdim,hs⟩,I,I⟩
theorem lm (E:World)(g:PH)(s:Own)(v u:Value)(l m:List Cl)(hv:ak g v l)(hu:ak g u m)(hl:a8 l)(hm:a8 m) :
  Ctr Tryz.prog E 22 #[.agg #[v],.agg #[u]] g s (fun r g' s'=>r=vb (decide (aa l=aa m))∧s=s'∧Le g g'):=by
 have hfl:=(ba hl).1;obtain ⟨pv,cv,rfl⟩:=hv.form;obtain ⟨pu,cu,rfl⟩:=hu.form;refine zb1 (args:=[.agg #[.slice pv l.length cv],.agg #[.slice pu m.length cu]]) func22 I ntmps22 (bE I)<|rZ (bW (bO I) fun b2=>?_);refine bW (bO I) fun b3=>aT I<|rZ<|lK (qV 1 ar ag I I I)<|lW (SO.call call47 I<|dZ E g _ _ l hv hl) ?_;rintro _ g1 _ ⟨rfl,hle1,x,rfl,hx⟩;obtain ⟨p,c,rfl⟩:=hx.form;refine lU (SU.field du I dU I I)<|aT I<|rZ<|lK (qV 0 ar ag I I I)<|lW (SO.call call47 I<|dZ E g1 _ _ m (hu.mono hle1) hm) ?_;rintro _ g2 _ ⟨rfl,hle2,y,rfl,hy⟩;obtain ⟨q,d,rfl⟩:=hy.form;have hx2:=hx.mono hle2;obtain ⟨rx,hrx,hax⟩:=hx2;obtain ⟨ry,hry,hay⟩:=hy;have exl:=hax.length;have eyl:=hay.length;refine lU (SU.field du I dU I I)<|aT I<|sQ<|sW I<|lU (eN aF I)<|lM I<|lU (eN aF I)<|lU (nQ I I)<|tZ<|iP I (fun hne=>?_) (fun hne=>?_)
 ·exact rZ<|aT I<|rE<|tR<|dR (s':=s) uR<|za7 (.inl I) results22 I ⟨ze2 vb (Eq.symm<|zf7 fun e=>hne<|by rw[e]),I,hle1.trans hle2⟩
 ·have hln:(aa l).length=(aa m).length:=oM;refine kP<|tN<|sQ<|rZ<|aT I<|bK<|SC.loop (ι:=Nat) (fun k=>[(5,.slice p (aa l).length c),(6,.slice q (aa m).length d),(7,vi k)]) (fun _=>g2) (fun _=>pt b3 (.cells #[.slice pu m.length cu] 29 (0,0))::pt b2 (.cells #[.slice pv l.length cv] 29 (0,0))::s) (fun k=>k≤(aa l).length∧(aa l).take k=(aa m).take k) (fun k=>(aa l).length - k) 0
   sB rfl rfl ⟨zf6 _,by simp⟩ ?_
  rintro k ⟨hk,heq⟩;refine sQ<|sW I<|lM I<|lU (eN aF I)<|yL I<|tZ<|iP I (fun hlt=>?_) (fun hlt=>?_)
  ·have hka:k<(aa l).length:=oM;have hkb:k<(aa m).length:=oM;have hra:k<rx.length:=oM;have hrb:k<ry.length:=oM;have hb1:=hrx.based oM;have hb2:=hry.based oM;have hcx:=hax.get (gE hka)<|gE hra;have hcy:=hay.get (gE hkb)<|gE hrb;have hxl:=(ba hl).2 _<|gM hka;have hr1:=hrx.rd (s:=pt b3 (.cells #[.slice pu m.length cu] 29 (0,0))::pt b2 (.cells #[.slice pv l.length cv] 29 (0,0))::s);have hr2:=hry.rd (s:=pt b3 (.cells #[.slice pu m.length cu] 29 (0,0))::pt b2 (.cells #[.slice pv l.length cv] 29 (0,0))::s);refine kP<|tN<|sQ<|bK<|sQ<|dW [] [(0,2),(1,2),(2,2),(3,1),(4,2),(5,2),(6,2),(7,1),(8,0),(9,2)] ze3 kR<|yM I<|yM I<|pU I (iA aF au I I hb1 oM sL)<|pQ I (eA bQ au I hr1<|gE hra) dC<|yM I<|yM I<|pU I (iA aF au I I hb2 oM sL)<|pQ I (eA bQ au I hr2<|gE hrb) dC<|SP.o I (SO.call call48 I<|rQ E g2 _ _ _ _ _ hcx hcy hxl) dC (.inr iR) ?_;rintro _ _ _ ⟨rfl,rfl,rfl⟩;refine pU I (aS I)<|pN<|tN<|sW I<|lU (SU.notP I)<|tZ<|iP I (fun hd=>?_) (fun hd=>?_)
   ·exact rZ<|aT I<|rE<|bR<|tR<|tR<|bR<|tR<|dR (s':=s) uR<|za7 (.inl I) results22 I ⟨ze2 vb (Eq.symm<|zf7 fun e=>hd<|by simp[e]),I,hle1.trans hle2⟩
   ·exact kP<|bN<|tN<|rG<|lM I<|yD I<|lA I<|nL<|ST.again (k+1) sB I I ⟨oM,fE hka hkb heq<|zg9 hd⟩ oM
  ·have hkk:k=(aa l).length:=oM;subst hkk;have hs:=gy hln heq;exact xI<|tX<|tX<|bX<|tN<|rZ<|aT I<|rE<|dR (s':=s) uR<|za7 (.inl I) results22 I ⟨ze2 vb<|Eq.symm<|zf8 hs,I,hle1.trans hle2⟩
theorem AC (l:List Cl):∀ (acc:List Cl) (c:Cl),(c∈acc∨c∈l)→∃ x∈l.foldl gS acc,x.id=c.id:=by
 induction l with
 | nil=>intro acc c h; rcases h with h | h; exact⟨c,h,I⟩; simp at h
 | cons y r ih =>
  intro acc c h;simp only[zi7]
  rcases h with h | h
  ·exact ih (gS acc y) c<|.inl (by unfold gS; split; exact h; simp[h])
  ·rcases zf1.1 h with rfl | h
   ·by_cases ha:acc.any (fun x=>x.id == c.id)=true
    ·rw[rC ha];rw[zj8] at ha;obtain ⟨z,hz,he⟩:=ha;obtain ⟨x,hx,hxe⟩:=ih acc z<|.inl hz;exact⟨x,hx,by rw[hxe]; simpa using he⟩
    ·have ha':acc.any (fun x=>x.id == c.id)=false:=by simpa using ha
     rw[kV ha'];exact ih _ c (.inl<|by simp)
   ·exact ih _ c<|.inr h
theorem C7 {L:List Cl}(hs:Srt Cl.id L){k:Nat}(h0:0<k)(hk:k<L.length):((L.take k).foldl gS []).any (fun x=>x.id == L[k].id)=decide (L[k].id=(L[k - 1]'oM).id):=by
 rw[Bool.eq_iff_iff,zj8,zj6];constructor
 ·rintro ⟨x,hx,he⟩;have hm:=(s8 _ [] x hx).resolve_left (by simp);obtain ⟨j,hj,rfl⟩:=zc7 hm;rw[ze4] at hj;rw[List.getElem_take] at he;have he':(L[j]'oM).id=L[k].id:=by simpa using he
  rcases Nat.lt_or_ge j (k - 1) with h | h
  ·have h1:=zc9.1 hs j (k - 1) oM oM h;have h2:=zc9.1 hs (k - 1) k oM hk oM;omega
  ·have:j=k - 1:=oM;subst this;exact he'.symm
 ·intro he;have hm:(L[k - 1]'oM)∈L.take k:=by
   have:k - 1<(L.take k).length:=by rw[ze4]; omega
   have h2:=gM this;rwa [List.getElem_take] at h2
  obtain ⟨x,hx,hxe⟩:=AC (L.take k) [] _ (.inr hm);exact⟨x,hx,by rw[hxe,← he]; simp⟩
theorem dy (E:World)(g:PH)(s:Own)(v:Value)(l:List Cl)(hv:ak g v l)(hf:a8 l) :
  Ctr Tryz.prog E 42 #[.agg #[v]] g s (fun r g' s'=>s=s'∧Le g g'∧ak g' r (aW l)):=by
 obtain ⟨p,c,rfl⟩:=hv.form;have hsrt:=gi l;have hcl:=aN l;have hfl:=hf.1;refine zb1 (args:=[.agg #[.slice p l.length c]]) func42 I ntmps42 (bE I)<|rZ (bW (bO I) fun b1=>?_);refine aT I<|rZ<|lU (fA du I di I)<|lK (qL dU I<|cO 0 I I)<|lW (SO.call call71 I<|jN E l.length g _ _ l (lR _) hv hf) ?_;rintro v8 g1 _ ⟨rfl,hle,h8⟩;obtain ⟨rs,hrs,hall⟩:=h8;have hrl:=hall.length;obtain ⟨q,d,rfl⟩:=hrs.form;refine aT I<|rZ<|aT I<|sQ<|rZ<|aT I<|bK<|zb5 54 3<|SC.loop (ι:=Value×Nat×List Rc) (fun i=>[(3,.slice q rs.length d),(4,i.1),(5,vi i.2.1)]) (fun _=>g1) (fun i=>rowA encCell 54 i.1 i.2.2::pt b1 (.cells #[.slice p l.length c] 29 (0,0))::s)
  (fun i=>i.2.1≤rs.length∧az (ay g1) (((aa l).take i.2.1).foldl gS []) i.2.2) (fun i=>rs.length - i.2.1) (.slice none 0 0,0,[]) sB rfl rfl ⟨zf6 _,by simp[az]⟩ ?_
 rintro ⟨ov,k,acc⟩ ⟨hk,hacc⟩;dsimp only at hk hacc ⊢;have hal:=hacc.length;have hal2:=fV ((aa l).take k) [];simp only[ze4,zc4] at hal2;refine sQ<|sW I<|lM I<|lU (eN aF I)<|yL I<|tZ<|iP I (fun hlt=>?_) (fun hlt=>?_)
 ·have hkr:k<rs.length:=oM;have hkl:k<(aa l).length:=oM;have hb1:=hrs.based oM;have hcr:=hall.get (gE hkl)<|gE hkr;have htake:((aa l).take<|k+1).foldl gS []=gS (((aa l).take k).foldl gS []) (aa l)[k]:=by
   rw[tS hkl,zi8]; rfl
  have hgx:rs[((k:Nat):Int).toNat]?=some rs[k]:=gE hkr;have hnew:gS (((aa l).take k).foldl gS []) (aa l)[k]=((aa l).take k).foldl gS []++[(aa l)[k]]→az (ay g1) (((aa l).take<|k+1).foldl gS []) (acc++[rs[k]]):=fun h=>by
   rw[htake,h]; exact hacc.append ⟨hcr,trivial⟩
  by_cases hk0:k=0
  ·subst hk0;refine kP<|tN<|sQ<|bK<|sQ<|dW [] [(0,2),(1,2),(2,2),(3,2),(4,2),(5,2),(6,2),(7,1),(8,2),(9,2),(10,2),(11,2),(12,2),(13,1),(14,2),(15,2)] ze3 kR<|yM I<|pU I (SU.eq (v':=vb true) (eQ I I) I)<|yM I<|yG I<|yG I<|yG I<|yG I<|yI I<|yG I<|yG I<|yG I<|yG I<|yG I<|yI I<|yG I<|pU I (wT I I)<|pN<|tN<|za1 I<|rG<|lM I<|lM I<|lM I<|lU (iA aF au I I hb1 oM sL)<|lK (eA bQ au I hrs.rd hgx)<|lW (bS sty27 I I I (ab sB) dC) ?_;rintro _ _ _ ⟨b36,rfl,rfl,rfl⟩;refine lW (aP (e:=encCell) 0 rs[0] sty27 I I I I I oM oM) ?_;rintro v37 _ _ ⟨rfl,rfl⟩;exact lA I<|nL<|bN<|tN<|rG<|lM I<|yD I<|lA I<|nL<|ST.again (v37,0+1,acc++[rs[0]]) sB I I ⟨lN,hnew (kV<|by simp)⟩ lN
  ·have hk1:k - 1<rs.length:=oM;have hk1l:k - 1<(aa l).length:=oM;have hany:=C7 hsrt (by omega:0<k) hkl;have hcr1:=hall.get (gE hk1l)<|gE hk1;have hgy:rs[((k:Int) - 1).toNat]?=some rs[k - 1]:=by rw[show ((k:Int) - 1).toNat=k - 1 by omega]; exact gE hk1
   refine kP<|tN<|sQ<|bK<|sQ<|dW [] [(0,2),(1,2),(2,2),(3,2),(4,2),(5,2),(6,2),(7,1),(8,2),(9,2),(10,2),(11,2),(12,2),(13,1),(14,2),(15,2)] ze3 kR<|yM I<|pU I (SU.eq (v':=vb false) (eQ I I)<|ze2 vb<|zf7 oM)<|yM I<|yJ I<|yJ I<|zb2 I (gT I I I dC) (iA aF au I I hb1 oM sL) dC<|zb2 I (gT I I I dC) (fC aw I zT3 I hb1) dC<|SP.gq I (gT I I I dC) (aZ (e:=encCell) (o:=0) (u:=vi rs[k].id) iT3 I hrs.rd hgx I) dC<|yJ I<|yJ I<|zb2 I (gT I I I dC) (sU I I oM) dC<|zb2 I (gT I I I dC) (iA aF au I I hb1 oM sL) dC<|zb2 I (gT I I I dC) (fC aw I zT3 I hb1) dC<|SP.gq I (gT I I I dC) (aZ (e:=encCell) (o:=0) (u:=vi rs[k - 1].id) iT3 I hrs.rd hgy I) dC<|zb2 I (gT I I I dC) (nQ I I) dC<|pU I (wF I I)<|pN<|tN<|iP I (fun hne=>?_) (fun hne=>?_)
   ·refine rG<|lM I<|lM I<|lM I<|lU (iA aF au I I hb1 oM sL)<|lK (eA bQ au I hrs.rd hgx)<|lW (bS sty27 I I I (ab sB) dC) ?_;rintro _ _ _ ⟨b36,rfl,rfl,rfl⟩;refine lW (aP (e:=encCell) 0 rs[k] sty27 I I I I I oM oM) ?_;rintro v37 _ _ ⟨rfl,rfl⟩;refine lA I<|nL<|bN<|tN<|rG<|lM I<|yD I<|lA I<|nL ?_;rw[hcr.1,hcr1.1] at hne;exact ST.again (v37,k+1,acc++[rs[k]]) sB I I ⟨lN,hnew<|kV (by rw[hany]; exact zf7 hne)⟩ lN
   ·refine kP<|bN<|tN<|rG<|lM I<|yD I<|lA I<|nL ?_;rw[hcr.1,hcr1.1] at hne;exact ST.again (ov,k+1,acc) sB I I ⟨lN,by dsimp only; rw[htake,rC (by rw[hany]; exact zf8<|zg9 hne)]; exact hacc⟩ lN
 ·have hkk:(aa l).take k=aa l:=tL oM;rw[hkk] at hacc;refine xI (tX<|tX<|bX<|tN<|sW I<|aT I<|rE<|fT fun g2 hle2 hs2=>?_);exact dR (s':=s) uR<|za7 (.inl I) results42 I ⟨I,hle.trans hle2,acc,hs2,hacc.mono fun _ _=>ay.mono hle2⟩
def atC (l:List Cl)(id:Int):Int:=if (l.map Cl.id).contains id then lbI (l.map Cl.id) id else -1
theorem jx (E:World)(g:PH)(s:Own)(v:Value)(l:List Cl)(id:Int)(hv:ak g v l)(hl:l.length<1099511627776)(hs:(l.map Cl.id).Pairwise (· ≤ ·)) :
  Ctr Tryz.prog E 62 #[v,vi id] g s (fun r g' s'=>r=vi (atC l id)∧g=g'∧s=s'):=by
 obtain ⟨rs,hrs,hall⟩:=hv;have hrl:=hall.length;obtain ⟨p,c,rfl⟩:=hrs.form;have hids:=i8 hall;have hml:(l.map Cl.id).length=l.length:=by simp
 have hri:∀ k (h:k<(l.map Cl.id).length) (h2:k<rs.length),(l.map Cl.id)[k]=rs[k].id:=fun k h h2=>by simp only[hids]; simp
 unfold atC;refine zb1 (args:=[.slice p rs.length c,vi id]) func62 I ntmps62 (bE I)<|rZ<|aT I<|rZ<|aT I<|sW I<|lU (eN aF I)<|aT I ?_;generalize l.map Cl.id=L at *;refine SC.cut (ι:=Nat) (fun i=>[(0,.slice p rs.length c),(1,vi id),(5,vi i)]) (fun _=>g) (fun _=>s) (fun i=>i≤L.length∧(∀ k (h:k<L.length),k<i→L[k]<id)∧∀ k (h:k<L.length),i≤k→id≤L[k]) ?_ ?_
 ·refine bK<|SC.loop (ι:=Nat×Nat) (fun q=>[(0,.slice p rs.length c),(1,vi id),(5,vi q.1),(6,vi q.2)]) (fun _=>g) (fun _=>s)
   (fun q=>q.1≤q.2∧q.2≤L.length∧(∀ k (h:k<L.length),k<q.1→L[k]<id)∧∀ k (h:k<L.length),q.2≤k→id≤L[k]) (fun q=>q.2 - q.1) (0,L.length)
   ⟨rfl,rfl,rfl,aU oM,trivial⟩ rfl rfl ⟨zf6 _,lR _,fun k _ h=>absurd h oM,fun k h1 h2=>absurd h1 (by dsimp only at h2; omega)⟩ ?_
  rintro ⟨i,j⟩ ⟨hij,hj,hlo,hhi⟩;dsimp only at hij hj hlo hhi ⊢;refine sQ<|sW I<|lM I<|yL I<|tZ<|iP I (fun hlt=>?_) (fun hlt=>?_)
  ·have hb1:=hrs.based oM;have hml2:(i+j) / 2<L.length:=oM;have hmr:(i+j) / 2<rs.length:=oM;have hmx:rs[((((i+j) / 2:Nat):Int)).toNat]?=some rs[(i+j) / 2]:=gE hmr;have hmi:=hri _ hml2 hmr;refine kP<|tN<|bK<|sW I<|lM I<|yD I<|lU (SU.eq (v':=vi (((i+j) / 2:Nat):Int)) (SU.quo I I dC)<|ze2 vi (by rw[← Int.natCast_add]; exact la _ oM)) ?_;refine aT I<|sW I<|lM I<|lU (iA aF au I I hb1 oM sL)<|lU (fC aw I zT3 I hb1)<|lK (aZ (e:=encCell) (o:=0) (u:=vi rs[(i+j) / 2].id) iT3 I hrs.rd hmx I)<|lM I<|yL I<|tZ<|iP I (fun hc=>?_) (fun hc=>?_)
   ·refine rG<|lM I<|yD I<|lA I<|nL<|bN<|ST.again ((i+j) / 2+1,j) sB I I ⟨lN,hj,fun k hk h=>?_,hhi⟩ lN;dsimp only at h;rw[← hmi] at hc
    rcases Nat.eq_or_lt_of_le (show k≤(i+j) / 2 by omega) with rfl | h'
    ·exact hc
    ·have:=zc9.1 hs k ((i+j) / 2) hk hml2 h';omega
   ·refine rG<|lM I<|lA I<|nL<|bN<|ST.again (i,(i+j) / 2) sB I I ⟨lN,lN,hlo,fun k hk h=>?_⟩ lN;dsimp only at h;rw[← hmi] at hc
    rcases Nat.eq_or_lt_of_le (show (i+j) / 2≤k by omega) with h' | h'
    ·subst h'; omega
    ·have:=zc9.1 hs ((i+j) / 2) k hml2 hk h';omega
  ·have hie:i=j:=oM;subst hie;exact xI<|tX<|tX<|bX<|za8 i sB I I ⟨hj,hlo,hhi⟩
 ·rintro i ⟨hj,hlo,hhi⟩;have hlb:=EM hj hlo hhi;by_cases hin:(i:Int)<(rs.length:Int)
  ·have hir:i<rs.length:=oM;have hil:i<L.length:=oM;have hb1:=hrs.based oM;have hmx:rs[((i:Nat):Int).toNat]?=some rs[i]:=gE hir;have hmi:=hri _ hil hir;have hfnd:=Cb hs hlo hhi hil;refine sQ<|sW I<|lM I<|lU (eN aF I)<|lU (SU.eq (v':=vb true) (lS I I)<|ze2 vb<|zf8 hin)<|lM I<|yC I<|yC I<|lY I I I (iA aF au I I hb1 oM sL)<|lY I I I (fC aw I zT3 I hb1)<|SL.gq (gT I I I dC) (aZ (e:=encCell) (o:=0) (u:=vi rs[i].id) iT3 I hrs.rd hmx I) dC<|yC I<|lY I I I (eQ I I)<|yP I<|tZ<|iP I (fun hc=>?_) (fun hc=>?_)
   ·refine sW I<|aT I<|rE<|tR ?_;rw[← hmi] at hc;exact za7 (.inl I) results62 I ⟨by rw[← hfnd,zf8 hc,zg1 I,hlb],I,I⟩
   ·refine kP<|tN<|rZ<|aT I<|rE ?_;rw[← hmi] at hc;exact za7 (.inl I) results62 I ⟨by rw[← hfnd,zf7 hc]; rfl,rfl,rfl⟩
  ·have hnf:=BN hlo oM;exact sQ<|sW I<|lM I<|lU (eN aF I)<|lU (SU.eq (v':=vb false) (lS I I)<|ze2 vb<|zf7 hin)<|lM I<|yA I<|yA I<|yA I<|yA I<|yA I<|yA I<|yA I<|yF I<|tZ<|cF I<|kP<|tN<|rZ<|aT I<|rE<|za7 (.inl I) results62 I ⟨by rw[hnf]; rfl,rfl,rfl⟩
end Go.Proofs.YtmmghffoakhheaaGreatDoor
