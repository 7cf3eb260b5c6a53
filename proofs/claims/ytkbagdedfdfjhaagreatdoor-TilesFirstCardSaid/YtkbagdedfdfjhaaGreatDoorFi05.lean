/- 5 -/
import Derived.Test.YtkbagdedfdfjhaaGreatDoorFi04
import Derived.Test.YtkbagdedfdfjhaaGreatDoorFi03
import Derived.Shelf.SlSortCmp.Whole1
set_option linter.unusedSimpArgs false
set_option linter.unusedVariables false
namespace Go.Proofs.YtkbagdedfdfjhaaGreatDoor
open _root_.Go.Proofs.Tryz _root_.Go.Proofs.YtkbagdedfdfjhaaGreatDoor.Tryz
open Go Go.Sy Go.Pl Go.Proofs
set_option maxRecDepth 100000
def ao (tl:List Cl)(x:ai):List ai:=((az tl x.cell).getD gt).sides
def lV (x:ai)(zl:List (Int×Int))(r:ai):List (Int×Int):=gL zl r.cell (x.sign * r.sign)
def ew (i:Int)(ml:List (Int×List Int))(r:ai):List (Int×List Int):=fE ml r.cell i
def gS (tl:List Cl)(l:List ai):List (Int×Int):=l.foldl (fun zl x=>(ao tl x).foldl (lV x) zl) []
def er (tl:List Cl)(l:List ai):List (Int×List Int):=l.zipIdx.foldl (fun ml p=>(ao tl p.1).foldl (ew p.2) ml) []
def lj (jl:List (Int×List Int))(p:Int×List Int):List (Int×List Int):=match p.2 with
 | [a,b]=>fE (fE jl a b) b a
 | _=>jl
def c4 (ml:List (Int×List Int)):List (Int×List Int):=ml.foldl lj []
def ji (jl:List (Int×List Int)):List Int:=dfs (jM jl) (jl.length+1) 0 []
def cC (tl:List Cl)(c:Cl):Int :=
 if (gS tl c.sides).any (fun p=>decide (p.2≠0)) then 24
 else if (er tl c.sides).any (fun p=>decide ((p.2.length:Int)≠2)) then 25
 else if ((ji (c4 (er tl c.sides))).length:Int)≠c.sides.length then 25 else 0
def AOk (tl:List Cl)(c:Cl):Prop:=c.sides.length≤64∧(∀ x∈c.sides,x.sign=1∨x.sign = -1)∧∀ x∈c.sides,(ao tl x).length≤64∧∀ r∈ao tl x,r.sign=1∨r.sign = -1
theorem zh {tl:List Cl}{l:List ai}{x:ai}:gS tl (l++[x])=(ao tl x).foldl (lV x) (gS tl l):=by
 simp[gS,zi6]
theorem Ck {tl:List Cl}{l:List ai}{x:ai}:er tl (l++[x])=(ao tl x).foldl (ew l.length) (er tl l):=by
 simp[er,List.zipIdx_append,zi6]
theorem xJ {a b:Int}(ha:a=1∨a = -1)(hb:b=1∨b = -1):a * b=1∨a * b = -1:=by
 rcases ha with rfl | rfl <;> rcases hb with rfl | rfl <;> decide
theorem C9 (ml:List (Int×List Int))(k x:Int):(fE ml k x).map Prod.fst=if ml.any (fun p=>decide (p.1=k)) then ml.map Prod.fst else ml.map Prod.fst++[k]:=by
 induction ml with
 | nil=>rfl
 | cons p r ih =>
  obtain ⟨a,l⟩:=p;simp only[fE];by_cases h:k=a
  ·subst h; simp
  ·have h':¬ a=k:=fun e=>h e.symm;rw[zf6 h];simp only[zg1,ih,List.any_cons,h',decide_false,Bool.false_or];split <;> simp
theorem Ak {ml:List (Int×List Int)}(h:(ml.map Prod.fst).Nodup)(k x:Int):((fE ml k x).map Prod.fst).Nodup:=by
 rw[C9];split
 ·exact h
 ·rename_i hk;rw[List.nodup_append];refine⟨h,by simp,fun a ha b hb e=>hk ?_⟩;simp at hb;subst hb;obtain ⟨p,hp,hpe⟩:=ze8.1 ha;rw[zj5];exact⟨p,hp,by simp[hpe,e]⟩
theorem j2 (tl:List Cl)(l:List ai):((er tl l).map Prod.fst).Nodup:=by
 unfold er;have h2:∀ (q:List (ai×Nat)) (ml:List (Int×List Int)),(ml.map Prod.fst).Nodup→((q.foldl (fun ml p=>(ao tl p.1).foldl (ew p.2) ml) ml).map Prod.fst).Nodup:=by
  intro q;induction q with
  | nil=>intro ml h; exact h
  | cons p t ih =>
   intro ml h;refine ih _ ?_;have h1:∀ (q:List ai) (ml:List (Int×List Int)),(ml.map Prod.fst).Nodup→((q.foldl (ew p.2) ml).map Prod.fst).Nodup:=by
    intro q;induction q with
    | nil=>intro ml h; exact h
    | cons r t ih=>intro ml h; exact ih _ (Ak h _ _)
   exact h1 _ _ h
 exact h2 _ _ (by simp)
theorem xf (ml:List (Int×List Int))(k x:Int):(fE ml k x).length≤ml.length+1:=by
 induction ml with
 | nil=>simp[fE]
 | cons p r ih =>
  obtain ⟨a,l⟩:=p;simp only[fE];split <;> simp <;> omega
theorem wE {tl:List Cl}{l:List ai}(h:∀ x∈l,(ao tl x).length≤64):(er tl l).length≤64 * l.length:=by
 have h2:∀ (q:List (ai×Nat)) (ml:List (Int×List Int)),(∀ p∈q,(ao tl p.1).length≤64)→(q.foldl (fun ml p=>(ao tl p.1).foldl (ew p.2) ml) ml).length≤ml.length+64 * q.length:=by
  intro q;induction q with
  | nil=>intro ml _; simp
  | cons p t ih =>
   intro ml hq;have h1:∀ (q:List ai) (ml:List (Int×List Int)),(q.foldl (ew p.2) ml).length≤ml.length+q.length:=by
    intro q;induction q with
    | nil=>intro ml; simp
    | cons r t ih =>
     intro ml;have h3:=ih (ew p.2 ml r);have h4:=xf ml r.cell p.2;simp only[zi5,ze5];unfold ew at h3 ⊢;omega
   have h5:=ih ((ao tl p.1).foldl (ew p.2) ml) (fun p hp=>hq p (by simp[hp]));have h6:=h1 (ao tl p.1) ml;have h7:=hq p (by simp);simp only[zi5,ze5];omega
 have:=h2 l.zipIdx [] (fun p hp=>h p.1 (by
  obtain ⟨a,i⟩:=p;exact (List.mem_zipIdx hp).2.2 ▸ gM _))
 simpa [er] using this
theorem wu {α:Type}(f:α→Int){vt ms:List α}(hs:∀ t∈vt,t∈ms)(hp:(vt.map f).Perm (ms.map f))(hn:(ms.map f).Nodup):vt.Perm ms:=by
 have hinj:∀ {l:List α},(l.map f).Nodup→∀ a∈l,∀ b∈l,f a=f b→a=b:=by
  intro l;induction l with
  | nil=>intro _ a ha; simp at ha
  | cons c t ih =>
   intro h a ha b hb e;simp only[zg1,zj8] at h
   rcases ze7.1 ha with rfl | ha' <;> rcases ze7.1 hb with rfl | hb'
   ·rfl
   ·exact absurd (ze8.2 ⟨b,hb',e.symm⟩) h.1
   ·exact absurd (ze8.2 ⟨a,ha',e⟩) h.1
   ·exact ih h.2 a ha' b hb' e
 refine (List.perm_ext_iff_of_nodup (List.Pairwise.of_map f (fun a b hab e=>hab (by rw[e])) (hp.symm.nodup hn)) (List.Pairwise.of_map f (fun a b hab e=>hab (by rw[e])) hn)).2 fun c=>⟨hs c,fun hc=>?_⟩;obtain ⟨c',h1,h2⟩:=ze8.1 (hp.symm.subset (ze8.2 ⟨c,hc,rfl⟩));rw[← hinj hn c' (hs c' h1) c hc h2];exact h1
theorem Ed (jl:List (Int×List Int))(a b x y:Int):y∈ez (fE jl a b) x↔y∈ez jl x∨(x=a∧y=b):=by
 rw[uk];split
 ·rename_i h; simp[h]
 ·rename_i h; simp[h]
theorem lg (ml:List (Int×List Int))(x y:Int):y∈ez (c4 ml) x↔∃ p∈ml,p.2=[x,y]∨p.2=[y,x]:=by
 have key:∀ (q:List (Int×List Int)) (jl:List (Int×List Int)),y∈ez (q.foldl lj jl) x↔y∈ez jl x∨∃ p∈q,p.2=[x,y]∨p.2=[y,x]:=by
  intro q;induction q with
  | nil=>intro jl; simp
  | cons p t ih =>
   intro jl;simp only[zi5,ih];have hp:y∈ez (lj jl p) x↔y∈ez jl x∨(p.2=[x,y]∨p.2=[y,x]):=by
    obtain ⟨k,l⟩:=p;unfold lj;dsimp only
    match l with
    | []=>simp
    | [_]=>simp
    | [a,b] =>
     simp only[Ed,List.cons.injEq,and_true];constructor
     ·rintro ((h | ⟨h1,h2⟩) | ⟨h1,h2⟩)
      ·exact .inl h
      ·exact .inr (.inl ⟨h1.symm,h2.symm⟩)
      ·exact .inr (.inr ⟨h2.symm,h1.symm⟩)
     ·rintro (h | ⟨h1,h2⟩ | ⟨h1,h2⟩)
      ·exact .inl (.inl h)
      ·exact .inl (.inr ⟨h1.symm,h2.symm⟩)
      ·exact .inr ⟨h2.symm,h1.symm⟩
    | _::_::_::q=>simp
   rw[hp];constructor
   ·rintro ((h | h) | ⟨q,h1,h2⟩)
    ·exact .inl h
    ·exact .inr ⟨p,by simp,h⟩
    ·exact .inr ⟨q,by simp[h1],h2⟩
   ·rintro (h | ⟨q,h1,h2⟩)
    ·exact .inl (.inl h)
    ·rcases ze7.1 h1 with rfl | h1
     ·exact .inl (.inr h2)
     ·exact .inr ⟨q,h1,h2⟩
 unfold c4;rw[key];simp[ez]
theorem BU {a b:List (Int×List Int)}(h:a.Perm b):(ji (c4 a)).length=(ji (c4 b)).length:=by
 have hr:∀ (a b:List (Int×List Int)),a.Perm b→∀ x,Rch (jM (c4 a)) 0 x→Rch (jM (c4 b)) 0 x:=by
  intro a b h x hx;refine hx.mono (fun u l hl y hy=>⟨_,I,?_⟩) (fun _ _=>by simp[jM]);simp only[jM,zg4] at hl;subst hl;rw[lg] at hy ⊢;obtain ⟨p,hp,h2⟩:=hy;exact⟨p,h.subset hp,h2⟩
 have hc:∀ jl:List (Int×List Int),nZ jl []<jl.length+1:=fun jl=>zk7 (zc2 _ _);have hmem:∀ (q:List (Int×List Int)) (x:Int),x∈ji (c4 q)↔Rch (jM (c4 q)) 0 x:=fun q x=>vF (cnt:=nZ (c4 q)) (fun v v' h=>jB h) (kU _) (hc _) (by simp[jM]) x;refine List.Perm.length_eq ((List.perm_ext_iff_of_nodup (jA _ _ _ _ (by simp)) (jA _ _ _ _ (by simp))).2 fun x=>?_);exact (hmem a x).trans (Iff.trans ⟨hr a b h x,hr b a h.symm x⟩ (hmem b x).symm)
theorem xa (E:World)(g:PH)(s:Own)(v:Value)(tl:List Cl)(c:Cl)(r:Rc)(hv:Tab g v tl)(hc:au g c r)(hok:AOk tl c) :
  Ctr Tryz.prog E 85 #[v,rcv r] g s (fun r g' s'=>r=vi (cC tl c)∧g=g'∧s=s'):=by
 obtain ⟨b,mt,iv,rs,rfl,hb,hm,hI,hall⟩:=hv;obtain ⟨ri,rd,rp,rn,rcap⟩:=r;have hcs:SlA encSide g (.slice rp rn rcap) c.sides:=hc.2.2;have hrn:rn=c.sides.length:=Sl.slen hcs;have hrd:rd=c.dim:=hc.2.1;subst hrn hrd;obtain ⟨hn64,hsg,hin⟩:=hok;have hx0:=fun h=>hcs.based h;refine za9 (args:=[pp b 0,rcv ⟨ri,c.dim,rp,c.sides.length,rcap⟩]) func85 I ntmps85 (bE I) ?_;refine rZ (bW (bO I) fun b3=>?_);refine aT I (rZ (lW (SO.mkMap) ?_));rintro _ _ _ ⟨mz,rfl,rfl,rfl⟩;refine lW (SO.mkMap) ?_;rintro _ _ _ ⟨mm,rfl,rfl,rfl⟩;refine lA I (aT I ?_);refine SC.cut (ι:=List (Int×Int)×Ms) (fun _=>[(3,pp b3 0),(5,.map (some mz)),(6,.map (some mm))]) (fun _=>g) (fun q=>mp mm (jm q.2)::mp mz (sX q.1)::pt b3 (.cells #[vi ri,vi c.dim,.slice rp c.sides.length rcap] 78 (0,0))::(e9 q.2++s))
  (fun q=>q.1=gS tl c.sides∧gw q.2=er tl c.sides∧∀ t∈q.2,t.2.2.length≤4096) ?_ ?_
 ·refine rZ (lU (fA ar I cA I) (lK (qL dE I (cO 2 I I)) (lU (eN cM I) (lM I (tZ (bK ?_))))));refine oP (ι:=Nat×List (Int×Int)×Ms) (fun q=>[(0,pp b 0),(3,pp b3 0),(5,.map (some mz)),(6,.map (some mm)),(21,.slice rp c.sides.length rcap),(22,vi c.sides.length),(23,vi q.1)]) (fun _=>g)
   (fun q=>mp mm (jm q.2.2)::mp mz (sX q.2.1)::pt b3 (.cells #[vi ri,vi c.dim,.slice rp c.sides.length rcap] 78 (0,0))::(e9 q.2.2++s))
   (fun q=>q.1≤c.sides.length∧q.2.1=gS tl (c.sides.take q.1)∧gw q.2.2=er tl (c.sides.take q.1)∧(∀ p∈q.2.1,-((64 * q.1:Nat):Int)≤p.2∧p.2≤((64 * q.1:Nat):Int))∧∀ t∈q.2.2,t.2.2.length≤64 * q.1) (fun q=>c.sides.length - q.1)
   (0,[],[]) sB rfl rfl ⟨zf3 _,by simp[gS],by simp[er,gw],by simp,by simp⟩ ?_
  rintro ⟨k,zl0,ms0⟩ ⟨hk,hz0,hm0,hzb0,hmb0⟩;dsimp only at hk hz0 hm0 hzb0 hmb0 ⊢;refine rZ (yL I (tZ (sQ ?_)));refine iP I (fun hlt=>?_) (fun hlt=>?_)
  ·have hkl:k<c.sides.length:=oM;have hb1:=hx0 oM;have hjx:c.sides[((k:Nat):Int).toNat]?=some c.sides[k]:=gE hkl;have htk:c.sides.take (k+1)=c.sides.take k++[c.sides[k]]:=tS hkl;have hmy:c.sides[k]∈c.sides:=gM hkl;have htkl:(c.sides.take k).length=k:=by simp; omega
   generalize c.sides[k]=y at *;obtain ⟨x,hx1,hx2,hx3⟩:=ie hall qn y.cell;obtain ⟨xi,xd,xp,xn,xc⟩:=x;have hxs:SlA encSide g (.slice xp xn xc) (ao tl y):=hx3.2.2;have hxn:xn=(ao tl y).length:=Sl.slen hxs;subst hxn;have hysg:=hsg y hmy;obtain ⟨hyl,hyr⟩:=hin y hmy;generalize hsy:ao tl y=sy at hxs hyl hyr;refine kP (tN (sQ (bK (sW I (lU (iA cM cq I I hb1 oM sL) (lK (eA mT cq I hcs.rd hjx) (bW (aL zk9) fun b8=>?_)))))));refine lA I (oZ (sK 0 cq I I I I I sB) ?_);refine tZ (sQ ?_);refine dW [] [(0,2),(1,2),(2,2),(3,1),(4,2),(5,1),(6,1),(7,2),(8,2),(9,2)] zd9 kR ?_;refine yM I (pU I (nC I) (pU I (fA qv I tu I) (pK I (qL isAgg85 I (cK hb I)) (pU I (fA dK I zT3 I) (pK I (qL iT3 I (cO 0 I I)) (pK I (SQ.eq (v':=rcv ⟨xi,xd,xp,sy.length,xc⟩) (SQ.lookup mty85 I I (cG.known hm)) (by rw[hx1,hsy])) ?_))))));refine pU I (SU.field ar I dE I I) (pU I (eN cM I) (yM I (pN (tN (bK ?_)))));refine oP (ι:=Nat×List (Int×Int)×Ms) (fun q=>[(0,pp b 0),(3,pp b3 0),(5,.map (some mz)),(6,.map (some mm)),(7,vi k),(8,pp b8 0),(21,.slice rp c.sides.length rcap),(22,vi c.sides.length),(23,vi k),(35,.slice xp sy.length xc),(36,vi sy.length),(37,vi q.1)]) (fun _=>g)
    (fun q=>pt b8 (.cells #[vi y.cell,vi y.sign] 94 (0,0))::mp mm (jm q.2.2)::mp mz (sX q.2.1)::pt b3 (.cells #[vi ri,vi c.dim,.slice rp c.sides.length rcap] 78 (0,0))::(e9 q.2.2++s))
    (fun q=>q.1≤sy.length∧q.2.1=(sy.take q.1).foldl (lV y) zl0∧gw q.2.2=(sy.take q.1).foldl (ew k) (er tl (c.sides.take k))∧(∀ p∈q.2.1,-((64 * k+q.1:Nat):Int)≤p.2∧p.2≤((64 * k+q.1:Nat):Int))∧∀ t∈q.2.2,t.2.2.length≤64 * k+q.1) (fun q=>sy.length - q.1)
    (0,zl0,ms0) sB rfl rfl ⟨zf3 _,by simp,by simp[hm0],by simpa using hzb0,by simpa using hmb0⟩ ?_
   rintro ⟨j,zl,ms⟩ ⟨hj,hz,hmm,hzb,hmb⟩;dsimp only at hj hz hmm hzb hmb ⊢;refine rZ (yL I (tZ (sQ ?_)));refine iP I (fun hlt2=>?_) (fun hlt2=>?_)
   ·have hjl:j<sy.length:=oM;have hb2:=hxs.based oM;have hjx2:sy[((j:Nat):Int).toNat]?=some sy[j]:=gE hjl;have htj:sy.take (j+1)=sy.take j++[sy[j]]:=tS hjl;have hrsg:=hyr _ (gM hjl);generalize sy[j]=z at *;obtain ⟨ms',j0,u,lu,hp1,hp2,hp3,hp4,hp6,hp5⟩:=Hx ms z.cell;have hmb':=hp6 _ hmb;have hlu:=hmb' _ (zf8 hp1);dsimp only at hlu;have hgb:=zS oM hzb z.cell;have hpr:=xJ hysg hrsg;refine SC.to (fun w hw=>hp5 E g [pt b8 (.cells #[vi y.cell,vi y.sign] 94 (0,0)),mp mm (jm ms),mp mz (sX zl),pt b3 (.cells #[vi ri,vi c.dim,.slice rp c.sides.length rcap] 78 (0,0))] s w hw) ?_;refine kP (tN (sQ (bK (rZ (lU (iA cM cq I I hb2 oM sL) (lK (eA mT cq I hxs.rd hjx2) (bW (aL zk9) fun b10=>?_)))))));refine oZ (sK 0 cq I I I I I sB) ?_;refine tZ (sW I (lU (fA dK I zT3 I) (lK (qL iT3 I (cO 0 I I)) (lK (SQ.eq (v':=vi (iJ zl z.cell)) (SQ.lookup mty79 I I (cG.own 3 I)) (Ep zl _)) (lU (fA dK I zT3 I) (lK (qL iT3 I (cO 1 I I)) (lU (fA dK I zT3 I) (lK (qL iT3 I (cO 0 I I)) (lU (SU.mul (m:=y.sign) (n:=z.sign) I I oM) (lU (aD (m:=iJ zl z.cell) (n:=y.sign * z.sign) I I oM) (lO (SO.mapUpdate 3 mty79 I I I I) ?_)))))))))));rintro _ _ _ ⟨rfl,rfl⟩;rw[EX];refine tZ ?_;refine SC.drawT 5 [10] [(0,2),(1,2),(2,1),(3,2),(4,2),(5,1),(6,1),(7,2),(8,0),(9,0),(10,0)] zd9 kR ?_;refine yM rfl (pU rfl (fA dK rfl zT3 rfl) (pK rfl (qL iT3 rfl (cO 0 rfl rfl)) (yM rfl (pU rfl (fA dK rfl zT3 rfl) (pK rfl (qL iT3 rfl (cO 0 rfl rfl)) (pK rfl (SQ.eq (SQ.lookup mty176 rfl rfl (cG.own 2 rfl)) hp2) (yM rfl (SP.o rfl (bS sty25 rfl rfl rfl (ae sB) dC) dC (.inr (by rintro _ _ _ ⟨b59,rfl,rfl,rfl⟩; exact⟨by exact zb7 _,(by exact .cons _ (List.take_sublist _ _))⟩)) ?_))))))));rintro _ _ _ ⟨b59,rfl,rfl,rfl⟩;refine SP.o I (SO.app1 (j0+5) ((lu++[(k:Int)]).flatMap encInt.enc) (lu++[(k:Int)]).length sty25 I I I (r6 hp1 s) I ⟨I,trivial⟩ (by simp[encInt]; rfl) (by simp) lN lN) dC (.inr (by rintro u' _ _ ⟨rfl,rfl⟩; exact⟨by exact zb7 _,(by exact fh _ _ _ _)⟩)) ?_;rintro u' _ _ ⟨rfl,rfl⟩;refine SP.on I (SO.mapUpdate 2 mty176 I I I I) (.inl dC) ?_;rintro _ _ _ ⟨rfl,rfl⟩;refine pN (bN (tN (rG (yD I (lM I (nL ?_))))));refine dR (s':=pt b8 (.cells #[vi y.cell,vi y.sign] 94 (0,0))::mp mm (jm (ms'.set j0 (z.cell,u',lu++[(k:Int)])))::mp mz (sX (gL zl z.cell (y.sign * z.sign)))::pt b3 (.cells #[vi ri,vi c.dim,.slice rp c.sides.length rcap] 78 (0,0))::(e9 (ms'.set j0 (z.cell,u',lu++[(k:Int)]))++s)) (by
     rw[← hp3 u' k,← r5 (v':=u') (l':=lu++[(k:Int)]) hp1 s];exact .cons _ (.refl _)) ?_
    exact gA (j+1,gL zl z.cell (y.sign * z.sign),ms'.set j0 (z.cell,u',lu++[(k:Int)])) sB I I ⟨lN,by rw[htj,zi6,← hz]; rfl,by rw[htj,zi6,← hmm,hp4]; rfl,by
      have:=Aj oM hzb z.cell (x:=y.sign * z.sign) oM;intro p hp;have:=this p hp;dsimp only at *;omega,fun t ht=>by
      dsimp only at *
      rcases List.mem_or_eq_of_mem_set ht with h | h
      ·have:=hmb' t h; omega
      ·subst h; simp; omega⟩ lN
   ·refine xI (tX (tX (bX (bN (tN (rG (yD I (lM I (nL ?_)))))))));have hjj:sy.take j=sy:=tL oM;rw[hjj] at hz hmm;refine dR (s':=mp mm (jm ms)::mp mz (sX zl)::pt b3 (.cells #[vi ri,vi c.dim,.slice rp c.sides.length rcap] 78 (0,0))::(e9 ms++s)) (.cons _ (.refl _)) ?_;exact gA (k+1,zl,ms) sB I I ⟨lN,by rw[htk,zh,hsy,← hz0]; exact hz,by rw[htk,Ck,hsy,htkl]; exact hmm,by
      intro p hp;have:=hzb p hp;dsimp only at *;omega,fun t ht=>by have:=hmb t ht; dsimp only at *; omega⟩ lN
  ·refine xI (tX (tX (bX ?_)));have hkk:c.sides.take k=c.sides:=tL oM;rw[hkk] at hz0 hm0;exact za7 (zl0,ms0) sB I I ⟨hz0,hm0,fun t ht=>by have:=hmb0 t ht; omega⟩
 ·rintro ⟨zl,ms⟩ ⟨hz,hmc,hmlen⟩;dsimp only at hz hmc hmlen ⊢;refine cP (zj7 _ _ _) (SC.freezeMap fun g1 hl1 hmz=>?_);refine SC.freezeMap fun g2 hl2 hmm=>?_;refine cP List.perm_middle.symm (SC.freezeRows fun g3 hl3 hrows=>?_);obtain ⟨es1,clk1,hes1,hmi1⟩:=hmz.mono (hl2.trans hl3);obtain ⟨es2,clk2,hes2,hmi2⟩:=hmm.mono hl3;have hle3:=hl1.trans (hl2.trans hl3);have hmsl:ms.length≤4096:=by
   have h1:=wE (tl:=tl) (l:=c.sides) (fun x hx=>(hin x hx).1);rw[← hmc] at h1;have h2:(gw ms).length=ms.length:=by simp[gw]
   omega
  refine sQ (sW I (lW (SO.range underlying79 I hes1) ?_));rintro _ _ _ ⟨it,rfl,rfl,rfl⟩;refine tZ (bK ?_);refine oP (ι:=List MapEntry×List (Int×Value)) (fun _=>[(3,pp b3 0),(6,.map (some mm)),(64,pp it 0)]) (fun _=>g3)
   (fun q=>j6 it mz es1 clk1 q.1::pt b3 (.cells #[vi ri,vi c.dim,.slice rp c.sides.length rcap] 78 (0,0))::s)
   (fun q=>qz (sX zl) es1 q.1 q.2∧∀ p∈q.2,p.2=vi 0) (fun q=>zl.length - q.2.length) ([],[]) sB rfl rfl ⟨qz.nil _ _,by simp⟩ ?_
  rintro ⟨vis,vl⟩ ⟨hrv,hvz⟩;dsimp only at hrv hvz ⊢;refine rZ (lW (SO.nextP 0 I I hes1 hmi1 hrv) ?_);rintro _ _ _ ⟨rfl,hcase⟩
  rcases hcase with ⟨rfl,rfl,hperm⟩ | ⟨e,pr,he,hq1,hk1,hv1,hrv2,rfl,rfl⟩
  ·have hz0:(gS tl c.sides).any (fun p=>decide (p.2≠0))=false:=by
    rw[zk2];intro p hp;rw[← hz] at hp;have:=hvz (p.1,vi p.2) (hperm.symm.subset (ze8.2 ⟨p,hp,rfl⟩));simpa using this
   refine yX I (tZ (sQ (cF I (xI (tX (tX (bX (tN (sQ (SC.drop (s':=pt b3 (.cells #[vi ri,vi c.dim,.slice rp c.sides.length rcap] 78 (0,0))::s) (.cons _ (.refl _)) (rG (lW (SO.mkMap) ?_))))))))))));rintro _ _ _ ⟨mj,rfl,rfl,rfl⟩;refine bW (aL zeroValue176) fun b13=>?_;refine oZ (sK 0 sizeOf176 I I I I I sB) ?_;refine tZ (sQ (sW I (lW (SO.range underlying176 I hes2) ?_)));rintro _ _ _ ⟨it2,rfl,rfl,rfl⟩;refine tZ (bK ?_);refine oP (ι:=List MapEntry×List (Int×Value)×Ms×Ms) (fun _=>[(3,pp b3 0),(13,pp b13 0),(73,pp it2 0)]) (fun _=>g3)
    (fun q=>j6 it2 mm es2 clk2 q.1::pt b13 (.cells #[.map (some mj)] 176 (0,0))::mp mj (jm q.2.2.2)::pt b3 (.cells #[vi ri,vi c.dim,.slice rp c.sides.length rcap] 78 (0,0))::(e9 q.2.2.2++s))
    (fun q=>qz (jm ms) es2 q.1 q.2.1∧q.2.1=jm q.2.2.1∧(∀ t∈q.2.2.1,t∈ms∧t.2.2.length=2)∧gw q.2.2.2=c4 (gw q.2.2.1)∧∀ t∈q.2.2.2,t.2.2.length≤2 * q.2.2.1.length) (fun q=>ms.length - q.2.1.length) ([],[],[],[]) sB rfl rfl ⟨qz.nil _ _,rfl,by simp,rfl,by simp⟩ ?_
   rintro ⟨vis2,vl2,vt,js⟩ ⟨hrv3,hvl2,hvt,hjs,hjb⟩;dsimp only at hrv3 hvl2 hvt hjs hjb ⊢;have hvtl:vt.length≤ms.length:=by have:=hrv3.len hmi2; rw[hvl2] at this; simpa [jm] using this
   refine rZ (lW (SO.nextP 0 I I hes2 hmi2 hrv3) ?_);rintro _ _ _ ⟨rfl,hcase2⟩
   rcases hcase2 with ⟨rfl,rfl,hperm2⟩ | ⟨e2,pr2,he2,hq2,hk2,hv2,hrv4,rfl,rfl⟩
   ·have hpm:(gw vt).Perm (er tl c.sides):=by
     rw[← hmc];have hn:(ms.map fun t=>t.1).Nodup:=by
      have:=j2 tl c.sides;rw[← hmc] at this;simpa [gw,zi2,Function.comp_def] using this
     have h1:=hperm2.map Prod.fst;rw[hvl2] at h1;simp only[jm,zi2,Function.comp_def] at h1;exact (wu (fun t=>t.1) (fun t ht=>(hvt t ht).1) h1 hn).map _
    have hreg:(er tl c.sides).any (fun p=>decide ((p.2.length:Int)≠2))=false:=by
     rw[zk2];intro p hp;obtain ⟨t,ht,rfl⟩:=ze8.1 (hpm.symm.subset hp);have:=(hvt t ht).2;simp[this]
    have hjlen:∀ t∈js,t.2.2.length<1099511627776:=fun t ht=>by
     have h1:=hjb t ht;omega
    refine yX I (tZ (sQ (cF I (xI (tX (tX (bX (tN (sQ (SC.drop (.cons _ (.refl _)) (SC.freeze fun g4 hl4 hb13=>?_)))))))))));refine SC.freezeMap fun g5 hl5 hmj=>?_;refine cP List.perm_middle.symm (SC.freezeRows fun g6 hl6 hjrows=>?_);refine rG (lW (SO.mkMap) ?_);rintro _ _ _ ⟨sm,rfl,rfl,rfl⟩;refine bW (aL zeroValue97) fun b16=>?_;refine oZ (sK 0 sizeOf97 I I I I I ⟨I,trivial⟩) (zb3 fun g7 hl7 hb16=>?_);refine tZ (rZ (bW (aL zeroValue135) fun b17=>?_));refine tZ (rZ (lU (SU.mkFunc I) (oZ (sK 0 sizeOf135 I I I I I ⟨I,trivial⟩) (zb3 fun g8 hl8 hb17=>?_))));refine tZ (rZ (lK (qL isAgg135 I (cK hb17 I)) (lW (SO.callV I I (cI.mk (cap:=[pp b16 0,pp b13 0,pp b17 0]) call131 (y7 E g8 b16 b13 b17 sm mj js (hmj.mono (hl6.trans (hl7.trans hl8))) (fun t ht=>(hjrows t ht).mono (hl7.trans hl8)) hjlen (hl8 _ _ hb16) ((hl5.trans (hl6.trans (hl7.trans hl8))) _ _ hb13) hb17 ((gw js).length+1) 0 [] _ 0 (zk7 (zc2 _ _)) I))) ?_)));rintro _ _ _ ⟨rfl,rfl⟩;refine tZ (sQ (rZ (lK (qL isAgg97 I (cK (hl8 _ _ hb16) I)) (lK (SQ.lenMap underlying97 I (cG.own 0 I)) (lU (fA ar I cA I) (lK (qL dE I (cO 1 I I)) (lU (eN cM I) (lU (nQ I I) (tZ ?_)))))))));have hseen:(ka (dfs (jM (gw js)) ((gw js).length+1) 0 [])).length=(ji (c4 (er tl c.sides))).length:=by
     rw[← BU hpm,← hjs];simp[ka,ji]
    rw[hseen];have hlast:=hle3.trans (hl4.trans (hl5.trans (hl6.trans (hl7.trans hl8))));refine iP I (fun hne=>?_) (fun hne=>?_)
    ·refine rZ (aT I (rE (tR ?_)));refine dR (s':=s) (.cons _ (.cons _ (.refl _))) (ST.less hlast ?_);exact za6 (.inl I) results85 I ⟨by unfold cC; rw[zf6 (by rw[hz0]; exact Bool.false_ne_true),zf6 (by rw[hreg]; exact Bool.false_ne_true),zf7 hne],I,I⟩
    ·refine kP (tN (rZ (aT I (rE ?_))));refine dR (s':=s) (.cons _ (.cons _ (.refl _))) (ST.less hlast ?_);exact za6 (.inl I) results85 I ⟨by unfold cC; rw[zf6 (by rw[hz0]; exact Bool.false_ne_true),zf6 (by rw[hreg]; exact Bool.false_ne_true),zf6 hne],I,I⟩
   ·obtain ⟨⟨tk,tv,tl2⟩,ht,rfl⟩:=ze8.1 hq2;have hti:bT g3 tv tl2:=hrows _ ht;have htl:tl2.length≤4096:=hmlen _ ht;obtain ⟨tp,tc,rfl⟩:=za2 hti;refine yX I (tZ (sQ (cT I (kP (tN (bK (rZ (lK (SQ.entryP 0 I I hes2 hmi2 he2 hk2 hv2) (yX I (aT I (sQ (sW I (lU (eN ak I) (lU (nQ I I) (tZ ?_)))))))))))))));refine iP I (fun hne2=>?_) (fun hne2=>?_)
    ·refine rZ (aT I (rE (tR (bR (tR (bR (tR ?_)))))));refine dR (s':=s) (.cons _ (.cons _ (.cons _ (.cons _ (List.sublist_append_right _ _))))) (ST.less hle3 ?_);have hany:(er tl c.sides).any (fun p=>decide ((p.2.length:Int)≠2))=true:=by
      rw[← hmc,zj5];exact⟨(tk,tl2),ze8.2 ⟨_,ht,I⟩,by simpa using hne2⟩
     exact za6 (.inl I) results85 I ⟨by unfold cC; rw[zf6 (by rw[hz0]; exact Bool.false_ne_true),zf7 hany],I,I⟩
    ·obtain ⟨a,bb,rfl⟩:∃ a bb,tl2=[a,bb]:=by
      match tl2,hne2 with
      | [],h=>exact absurd (by simp) h
      | [_],h=>exact absurd (by simp) h
      | [a,bb],_=>exact⟨a,bb,rfl⟩
      | _::_::_::q,h=>exact absurd (by simp only[ze5]; omega) h
     have hbt:=za4 hti (by simp);obtain ⟨js',j0,u0,lu,hp1,hp2,hp3,hp4,hp6,hp5⟩:=Hx js a;have hjb':=hp6 _ hjb;have hlu:=hjb' _ (zf8 hp1);dsimp only at hlu;refine kP (tN (sQ ?_));refine SC.to (fun w hw=>hp5 E g3 [j6 it2 mm es2 clk2 (vis2++[e2]),pt b13 (.cells #[.map (some mj)] 176 (0,0)),mp mj (jm js),pt b3 (.cells #[vi ri,vi c.dim,.slice rp c.sides.length rcap] 78 (0,0))] s w hw) ?_;refine SC.drawT 4 [14] [(0,1),(1,2),(2,2),(3,1),(4,1),(5,2),(6,2),(7,1),(8,1),(9,2),(10,2),(11,1),(12,0),(13,0),(14,0)] zd9 kR ?_;refine pK I (qL isAgg176 I (cO 1 I I)) (yM I (pU I (iA ak zT3 I I hbt dC (show (0:Int)<((2:Nat):Int) by decide)) ?_));refine pK I (eB iT3 I (za5 hti) (j:=0) I I) (pK I (qL isAgg176 I (cO 1 I I)) (yM I (pU I (iA ak zT3 I I hbt dC (show (0:Int)<((2:Nat):Int) by decide)) ?_)));refine pK I (eB iT3 I (za5 hti) (j:=0) I I) (pK I (SQ.eq (SQ.lookup mty176 I I (cG.own 2 I)) hp2) (yM I (pU I (iA ak zT3 I I hbt dC (show (1:Int)<((2:Nat):Int) by decide)) ?_)));refine pK rfl (eB iT3 rfl (za5 hti) (j:=1) rfl rfl) (SP.o rfl (bS sty25 rfl rfl rfl (ae sB) dC) dC (.inr (by rintro _ _ _ ⟨b93,rfl,rfl,rfl⟩; exact⟨by exact zb7 _,(by exact .cons _ (List.take_sublist _ _))⟩)) ?_);rintro _ _ _ ⟨b93,rfl,rfl,rfl⟩;refine SP.o I (SO.app1 (j0+4) ((lu++[bb]).flatMap encInt.enc) (lu++[bb]).length sty25 I I I (r6 hp1 s) I ⟨I,trivial⟩ (by simp[encInt]; rfl) (by simp) lN lN) dC (.inr (by rintro u1 _ _ ⟨rfl,rfl⟩; exact⟨by exact zb7 _,(by exact fh _ _ _ _)⟩)) ?_;rintro u1 _ _ ⟨rfl,rfl⟩;refine SP.on I (SO.mapUpdate 2 mty176 I I I I) (.inl dC) ?_;rintro _ _ _ ⟨rfl,rfl⟩;refine pN (tN (SC.drop (s':=[j6 it2 mm es2 clk2 (vis2++[e2]),pt b13 (.cells #[.map (some mj)] 176 (0,0)),mp mj (jm (js'.set j0 (a,u1,lu++[bb]))),pt b3 (.cells #[vi ri,vi c.dim,.slice rp c.sides.length rcap] 78 (0,0))]++(e9 (js'.set j0 (a,u1,lu++[bb]))++s)) (by rw[← hp3 u1 bb,← r5 (v':=u1) (l':=lu++[bb]) hp1 s]; exact .refl _) ?_));have hjb1:∀ t∈(js'.set j0 (a,u1,lu++[bb])),t.2.2.length≤2 * vt.length+1:=fun t ht=>(by rcases List.mem_or_eq_of_mem_set ht with h | h; (have:=hjb' t h; omega); (subst h; simp; omega));obtain ⟨js2,j1,u2,lw,hq1,hq2',hq3,hq4,hq6,hq5⟩:=Hx (js'.set j0 (a,u1,lu++[bb])) bb;have hjb2:=hq6 _ hjb1;have hlw:=hjb2 _ (zf8 hq1);dsimp only at hlw;refine SC.to (fun w hw=>hq5 E g3 [j6 it2 mm es2 clk2 (vis2++[e2]),pt b13 (.cells #[.map (some mj)] 176 (0,0)),mp mj (jm (js'.set j0 (a,u1,lu++[bb]))),pt b3 (.cells #[vi ri,vi c.dim,.slice rp c.sides.length rcap] 78 (0,0))] s w hw) ?_;refine SC.drawT 4 [14] [(0,1),(1,2),(2,2),(3,1),(4,1),(5,2),(6,2),(7,1),(8,1),(9,2),(10,2),(11,1),(12,0),(13,0),(14,0)] zd9 kR ?_;refine pK I (qL isAgg176 I (cO 1 I I)) (yM I (pU I (iA ak zT3 I I hbt dC (show (1:Int)<((2:Nat):Int) by decide)) ?_));refine pK I (eB iT3 I (za5 hti) (j:=1) I I) (pK I (qL isAgg176 I (cO 1 I I)) (yM I (pU I (iA ak zT3 I I hbt dC (show (1:Int)<((2:Nat):Int) by decide)) ?_)));refine pK I (eB iT3 I (za5 hti) (j:=1) I I) (pK I (SQ.eq (SQ.lookup mty176 I I (cG.own 2 I)) hq2') (yM I (pU I (iA ak zT3 I I hbt dC (show (0:Int)<((2:Nat):Int) by decide)) ?_)));refine pK rfl (eB iT3 rfl (za5 hti) (j:=0) rfl rfl) (SP.o rfl (bS sty25 rfl rfl rfl (ae sB) dC) dC (.inr (by rintro _ _ _ ⟨b107,rfl,rfl,rfl⟩; exact⟨by exact zb7 _,(by exact .cons _ (List.take_sublist _ _))⟩)) ?_);rintro _ _ _ ⟨b107,rfl,rfl,rfl⟩;refine SP.o I (SO.app1 (j1+4) ((lw++[a]).flatMap encInt.enc) (lw++[a]).length sty25 I I I (r6 hq1 s) I ⟨I,trivial⟩ (by simp[encInt]; rfl) (by simp) lN lN) dC (.inr (by rintro u3 _ _ ⟨rfl,rfl⟩; exact⟨by exact zb7 _,(by exact fh _ _ _ _)⟩)) ?_;rintro u3 _ _ ⟨rfl,rfl⟩;refine SP.on I (SO.mapUpdate 2 mty176 I I I I) (.inl dC) ?_;rintro _ _ _ ⟨rfl,rfl⟩;refine pN (bN (dR (s':=[j6 it2 mm es2 clk2 (vis2++[e2]),pt b13 (.cells #[.map (some mj)] 176 (0,0)),mp mj (jm (js2.set j1 (bb,u3,lw++[a]))),pt b3 (.cells #[vi ri,vi c.dim,.slice rp c.sides.length rcap] 78 (0,0))]++(e9 (js2.set j1 (bb,u3,lw++[a]))++s)) (by rw[← hq3 u3 a,← r5 (v':=u3) (l':=lw++[a]) hq1 s]; exact .refl _) ?_));exact gA (vis2++[e2],vl2++[(tk,.slice tp 2 tc)],vt++[(tk,.slice tp 2 tc,[a,bb])],js2.set j1 (bb,u3,lw++[a])) sB I I ⟨hrv4,by rw[hvl2]; simp[jm],fun t ht2=>by
       rcases ze9.1 ht2 with h | h
       ·exact hvt t h
       ·simp at h; subst h; exact⟨ht,I⟩,by rw[hq4,hp4,hjs]; simp[c4,gw,lj],fun t ht2=>by
       simp only[ze2,ze4]
       rcases List.mem_or_eq_of_mem_set ht2 with h | h
       ·have:=hjb2 t h; omega
       ·subst h; simp; omega⟩ (by
       have:=hrv4.len hmi2;simp only[jm,ze3,ze2,ze4] at this ⊢;omega)
  ·obtain ⟨zp,hzp,rfl⟩:=ze8.1 hq1;refine yX I (tZ (sQ (cT I (kP (tN (bK (rZ (lK (SQ.entryP 0 I I hes1 hmi1 he hk1 hv1) (yX I (aT I (sW I (lU (nQ I I) (tZ ?_)))))))))))));refine iP I (fun hne=>?_) (fun hne=>?_)
   ·refine rZ (aT I (rE (bR (tR (bR (tR ?_))))));refine dR (s':=s) (.cons _ (.cons _ (.refl _))) (ST.less hle3 ?_);have hany:(gS tl c.sides).any (fun p=>decide (p.2≠0))=true:=by
     rw[← hz,zj5];exact⟨zp,hzp,by simpa using hne⟩
    exact za6 (.inl I) results85 I ⟨by unfold cC; rw[zf7 hany],I,I⟩
   ·refine kP (bN ?_);exact gA (vis++[e],vl++[(zp.1,vi zp.2)]) sB I I ⟨hrv2,fun p hp=>by
     rcases ze9.1 hp with h | h
     ·exact hvz p h
     ·simp at h; subst h;have:zp.2=0:=by simpa using hne
      simp[this]⟩ (by
     have:=hrv2.len hmi1;simp only[sX,ze3,ze2,ze4] at this ⊢;omega)
def gK (tl:List Cl):List Cl→Int→Option (Int×Int)
 | [],_=>none
 | x::r,last=>if x.id≤last then some (x.id,20) else if ct tl x≠0 then some (x.id,ct tl x) else gK tl r x.id
def n5 (tl:List Cl):List Cl→Option (Int×Int)
 | []=>none
 | x::r=>if x.dim>1∧cC tl x≠0 then some (x.id,cC tl x) else n5 tl r
def bg (l:List Cl):Int×Int:=if (l.length:Int)>4000 then (0,2) else (gK (ab l) (aa l) 0).getD ((n5 (ab l) (aa l)).getD (0,0))
theorem jp {tl:List Cl}{c:Cl}(h:ct tl c=0):c.sides.length≤64∧∀ x∈c.sides,x.sign=1∨x.sign = -1:=by
 unfold ct at h;split at h
 ·simp at h
 ·rename_i hdb;split at h
  ·simp at h
  ·rename_i hcb;split at h
   ·simp at h
   ·split at h
    ·simp at h
    ·rename_i hsg;refine⟨?_,fun x hx=>?_⟩
     ·simp[eZ] at hdb;simp[ax] at hcb
      rcases Int.lt_trichotomy c.dim 1 with h | h | h
      ·have:c.dim=0:=oM;have:=hcb.1.1 this;simp[this]
      ·have:=hcb.1.2 h;omega
      ·have:=hcb.2 h;omega
     ·have h1:c.sides.any bL=false:=by simpa using hsg
      rw[zk2] at h1;have h2:=h1 x hx;simp only[bL,zi9,zj2,ne_eq,not_and,Decidable.not_not] at h2;by_cases h3:x.sign=1
      ·exact .inl h3
      ·exact .inr (h2 h3)
theorem lI {tl:List Cl}:∀ {l:List Cl} {last:Int},gK tl l last=none→∀ x∈l,ct tl x=0
 | [],_,_,x,hx=>by simp at hx
 | y::r,last,h,x,hx=>by
  unfold gK at h;split at h
  ·simp at h
  ·split at h
   ·simp at h
   ·rename_i h0
    rcases ze7.1 hx with rfl | hx
    ·exact zg6 h0
    ·exact lI h x hx
theorem AI {l:List Cl}(h:∀ x∈aa l,ct (ab l) x=0){c:Cl}(hc:c∈aa l):AOk (ab l) c:=by
 obtain ⟨h1,h2⟩:=jp (h c hc);refine⟨h1,h2,fun x hx=>?_⟩;unfold ao;cases hf:az (ab l) x.cell with
 | none=>simp[gt]
 | some y=>exact jp (h y (rX (bF hf).1))
theorem j4 (E:World)(g:PH)(s:Own)(v:Value)(l:List Cl)(hv:am g v l)(hf:cZ l) :
  Ctr Tryz.prog E 37 #[.agg #[v]] g s (fun r g' s'=>r = .tuple #[vi (bg l).1,vi (bg l).2]∧g=g'∧s=s'):=by
 have hfc:=cJ hf;have hfl:=hf.1;obtain ⟨p,cp,hvf⟩:=hv.form;subst hvf;refine za9 (args:=[.agg #[.slice p l.length cp]]) func37 I ntmps37 (bE I) ?_;refine rZ (bW (bO I) fun b1=>?_);refine lA I (aT I (sQ (rZ (lU (fA fq I ek I) (lK (qL ii I (cO 0 I I)) (lU (eN aO I) (lU (gR I I) (tZ ?_))))))));refine iP I (fun hbig=>?_) (fun hbig=>?_)
 ·refine rZ (lA I (aT I (rE (tR (dR (s':=s) uR ?_)))));exact ST.ret2 (.inl I) results37 I I ⟨by unfold bg; rw[zf7 hbig],I,I⟩
 ·refine kP (tN (rZ (lK (qV 0 bq aw I I I) (lW (cL call42 I (jo E g _ _ l hv hf)) ?_))));rintro tv g1 _ ⟨rfl,hle1,ht⟩;refine aT I (rZ (lK (qV 0 bq aw I I I) (lW (cL call15 I (ir E g1 _ _ l (hv.mono hle1) hf)) ?_)));rintro _ g2 _ ⟨rfl,hle2,u,rfl,rs,hrs,hall⟩;obtain ⟨q,d,rfl⟩:=hrs.form;refine lU (SU.field fq I ii I I) (lA I (aT I (sQ (sW I (lU (eN aO I) (lM I (tZ (bK ?_))))))));have hres:bg l=(gK (ab l) (aa l) 0).getD ((n5 (ab l) (aa l)).getD (0,0)):=by unfold bg; rw[zf6 hbig]
  have ht2:=ht.mono hle2;have hlen:=hall.length;have hcl:=hfc.1;have hleg:=hle1.trans hle2;refine oP (ι:=Nat×Int) (fun i=>[(4,tv),(5,vi i.2),(6,.slice q rs.length d),(22,.slice q rs.length d),(23,vi rs.length),(24,vi i.1)]) (fun _=>g2)
   (fun _=>pt b1 (.cells #[.slice p l.length cp] 30 (0,0))::s) (fun i=>i.1≤rs.length∧gK (ab l) (aa l) 0=gK (ab l) ((aa l).drop i.1) i.2) (fun i=>rs.length - i.1) (0,0)
   sB rfl rfl ⟨zf3 _,by simp⟩ ?_
  rintro ⟨k,last⟩ ⟨hk,heq⟩;dsimp only at hk heq ⊢;refine rZ (yL I (tZ (sQ ?_)));refine iP I (fun hlt=>?_) (fun hlt=>?_)
  ·have hkr:k<rs.length:=oM;have hkc:k<(aa l).length:=oM;have hb1:=hrs.based oM;have hcr:=hall.get (gE hkc) (gE hkr);have hgx:rs[((k:Nat):Int).toNat]?=some rs[k]:=gE hkr;have hdrop:(aa l).drop k=(aa l)[k]::(aa l).drop (k+1):=zg3 hkc;have hxl:=hfc.2 _ (gM hkc);generalize rs[k]=x at *;generalize (aa l)[k]=cx at *;rw[hdrop] at heq;obtain ⟨xi,xd,xv⟩:=x;have hxi:xi=cx.id:=hcr.1;subst hxi;refine kP (tN (sQ (bK (rZ (lU (iA aO aK I I hb1 oM sL) (lK (eA gJ aK I hrs.rd hgx) (bW (aL zl1) fun b8=>?_)))))));refine oZ (sK 0 aK I I I I I sB) ?_;refine tZ (sQ (rZ (lU (fA ar I zT3 I) (lK (qL iT3 I (cO 0 I I)) (lM I (lU (SU.leq I I) (tZ ?_)))))));refine iP I (fun hid=>?_) (fun hid=>?_)
   ·refine rZ (lU (fA ar I zT3 I) (lK (qL iT3 I (cO 0 I I)) (lA I (aT I (rE (tR (bR (tR (tR (bR (tR ?_)))))))))));refine dR (s':=s) (.cons _ (.cons _ (.refl _))) (ST.less hleg ?_);have h1:bg l=(cx.id,20):=by rw[hres,heq]; unfold gK; rw[zf7 hid]; rfl
    exact ST.ret2 (.inl I) results37 I I ⟨by (rw[h1]; rfl),rfl,rfl⟩
   ·refine kP (tN (rZ (lU (fA ar I zT3 I) (lK (qL iT3 I (cO 0 I I)) (aT I (sW I (lK (qV 0 gJ aK I I I) (lW (cL call84 I (CB E g2 _ tv (ab l) cx _ ht2 hcr hxl)) ?_))))))));rintro _ _ _ ⟨rfl,rfl,rfl⟩;refine aT I (sW I (lU (nQ I I) (tZ ?_)));refine iP I (fun he=>?_) (fun he=>?_)
    ·refine rZ (lU (fA ar I zT3 I) (lK (qL iT3 I (cO 0 I I)) (lM I (lA I (aT I (rE (bR (tR (tR (bR (tR ?_)))))))))));refine dR (s':=s) (.cons _ (.cons _ (.refl _))) (ST.less hleg ?_);have h1:bg l=(cx.id,ct (ab l) cx):=by rw[hres,heq]; unfold gK; rw[zf6 hid,zf7 he]; rfl
     exact ST.ret2 (.inl I) results37 I I ⟨by (rw[h1]; rfl),rfl,rfl⟩
    ·refine kP (bN (tN (rG (yD I (lM I (nL (dR (s':=pt b1 (.cells #[.slice p l.length cp] 30 (0,0))::s) (.cons _ (.refl _)) ?_)))))));exact gA (k+1,cx.id) sB I I ⟨lN,by rw[heq]; rw[gK,zf6 hid,zf6 he]⟩ lN
  ·have hkk:(aa l).drop k=[]:=List.drop_of_length_le oM;rw[hkk] at heq;have hall0:=lI heq;refine xI (tX (tX (bX (tN (sQ (sW I (lU (eN aO I) (lM I (tZ (bK ?_))))))))));refine oP (ι:=Nat) (fun i=>[(4,tv),(45,.slice q rs.length d),(46,vi rs.length),(47,vi i)]) (fun _=>g2)
    (fun _=>pt b1 (.cells #[.slice p l.length cp] 30 (0,0))::s) (fun i=>i≤rs.length∧n5 (ab l) (aa l)=n5 (ab l) ((aa l).drop i)) (fun i=>rs.length - i) 0
    sB rfl rfl ⟨zf3 _,by simp⟩ ?_
   rintro k ⟨hk,heq2⟩;try dsimp only
   refine rZ (yL I (tZ (sQ ?_)));refine iP I (fun hlt2=>?_) (fun hlt2=>?_)
   ·have hkr:k<rs.length:=oM;have hkc:k<(aa l).length:=oM;have hb1:=hrs.based oM;have hcr:=hall.get (gE hkc) (gE hkr);have hgx:rs[((k:Nat):Int).toNat]?=some rs[k]:=gE hkr;have hdrop:(aa l).drop k=(aa l)[k]::(aa l).drop (k+1):=zg3 hkc;have hcm:=gM hkc;have haok:=AI hall0 hcm;generalize rs[k]=x at *;generalize (aa l)[k]=cx at *;rw[hdrop] at heq2;obtain ⟨xi,xd,xv⟩:=x;have hxi:xi=cx.id:=hcr.1;have hxd:xd=cx.dim:=hcr.2.1;subst hxi hxd;refine kP (tN (sQ (bK (rZ (lU (iA aO aK I I hb1 oM sL) (lK (eA gJ aK I hrs.rd hgx) (bW (aL zl1) fun b11=>?_)))))));refine oZ (sK 0 aK I I I I I sB) ?_;refine tZ (rZ (lU (fA ar I zT3 I) (lK (qL iT3 I (cO 0 I I)) (lU (gR I I) (tZ ?_)))));refine iP I (fun hd1=>?_) (fun hd1=>?_)
    ·refine sW I (lK (qV 0 gJ aK I I I) (lW (cL call85 I (xa E g2 _ tv (ab l) cx _ ht2 hcr haok)) ?_));rintro _ _ _ ⟨rfl,rfl,rfl⟩;refine aT I (sW I (lU (nQ I I) (tZ ?_)));refine iP I (fun he=>?_) (fun he=>?_)
     ·refine rZ (lU (fA ar I zT3 I) (lK (qL iT3 I (cO 0 I I)) (lM I (lA I (aT I (rE (bR (tR (tR (bR (tR ?_)))))))))));refine dR (s':=s) (.cons _ (.cons _ (.refl _))) (ST.less hleg ?_);have h1:bg l=(cx.id,cC (ab l) cx):=by rw[hres,heq,heq2]; unfold n5; rw[zf7 ⟨hd1,he⟩]; rfl
      exact ST.ret2 (.inl I) results37 I I ⟨by (rw[h1]; rfl),rfl,rfl⟩
     ·refine kP (bN (tN (rG (yD I (lM I (nL (dR (s':=pt b1 (.cells #[.slice p l.length cp] 30 (0,0))::s) (.cons _ (.refl _)) ?_)))))));exact gA (k+1) sB I I ⟨oM,by rw[heq2]; rw[n5,zf6 (fun h=>he h.2)]⟩ oM
    ·refine kP (bN (tN (rG (yD I (lM I (nL (dR (s':=pt b1 (.cells #[.slice p l.length cp] 30 (0,0))::s) (.cons _ (.refl _)) ?_)))))));exact gA (k+1) sB I I ⟨oM,by rw[heq2]; rw[n5,zf6 (fun h=>hd1 h.1)]⟩ oM
   ·have hkk2:(aa l).drop k=[]:=List.drop_of_length_le oM;rw[hkk2] at heq2;refine xI (tX (tX (bX (tN (rZ (lA I (aT I (rE ?_))))))));refine dR (s':=s) (.cons _ (.refl _)) (ST.less hleg ?_);have h1:bg l=(0,0):=by rw[hres,heq,heq2]; rfl
    exact ST.ret2 (.inl I) results37 I I ⟨by (rw[h1]; done),I,I⟩
theorem wL (E:World)(g:PH)(s:Own)(a:Int):Ctr Tryz.prog E 125 #[vi a] g s (fun r g' s'=>r=vb false∧g=g'∧s=s'):=by
 refine za9 (args:=[vi a]) func125 I ntmps125 (bE I) ?_;refine rZ (aT I (sW I (lM I (lU (nQ I I) (aT I (rE ?_))))));exact za6 (.inl I) results125 I ⟨by simp,I,I⟩
theorem Ct (E:World)(g:PH)(s:Own)(a b:Int):Ctr Tryz.prog E 124 #[vi a,vi b] g s (fun r g' s'=>r=vb (decide (a<b))∧g=g'∧s=s'):=by
 refine za9 (args:=[vi a,vi b]) func124 I ntmps124 (bE I) ?_;refine rZ (aT I (sW I (lW (cL call135 I (j3 E g s a)) ?_)));rintro _ _ _ ⟨rfl,rfl,rfl⟩;refine lM I ?_
 first | refine SL.gu (gT rfl rfl rfl dC) (mV rfl) dC ?_ | refine SL.off (gZ rfl rfl rfl dC) dC ?_ | refine SL.off (zb2 rfl rfl rfl dC) dC ?_
 first | (refine zd7 (gT rfl rfl rfl dC) (cL call135 rfl (j3 E g s b)) dC ?_; rintro _ _ _ ⟨rfl,rfl,rfl⟩) | refine SL.off (gZ rfl rfl rfl dC) dC ?_ | refine SL.off (zb2 rfl rfl rfl dC) dC ?_
 first | refine SL.gu (gT rfl rfl rfl dC) ((by first | exact SU.notP rfl | exact SU.not rfl)) dC ?_ | refine SL.off (gZ rfl rfl rfl dC) dC ?_ | refine SL.off (zb2 rfl rfl rfl dC) dC ?_
 refine yF I (lM I ?_)
 first | refine SL.gu (gT rfl rfl rfl dC) (mV rfl) dC ?_ | refine SL.off (gZ rfl rfl rfl dC) dC ?_ | refine SL.off (zb2 rfl rfl rfl dC) dC ?_
 first | refine SL.gu (gT rfl rfl rfl dC) (mV rfl) dC ?_ | refine SL.off (gZ rfl rfl rfl dC) dC ?_ | refine SL.off (zb2 rfl rfl rfl dC) dC ?_
 first | refine SL.gu (gT rfl rfl rfl dC) (lS rfl rfl) dC ?_ | refine SL.off (gZ rfl rfl rfl dC) dC ?_ | refine SL.off (zb2 rfl rfl rfl dC) dC ?_
 refine yF I (aT I (rE ?_));exact za6 (.inl I) results124 I ⟨I,I,I⟩
def lbI (l:List Int)(x:Int):Nat:=(l.filter fun y=>decide (y<x)).length
theorem GU {l:List Int}{x:Int}{i:Nat}(hi:i≤l.length)(h1:∀ k (h:k<l.length),k<i→l[k]<x)(h2:∀ k (h:k<l.length),i≤k→x≤l[k]):lbI l x=i:=by
 unfold lbI;have e:l=l.take i++l.drop i:=(zi8 i l).symm;rw[e,zh3];have f1:(l.take i).filter (fun y=>decide (y<x))=l.take i:=by
  rw[List.filter_eq_self];intro y hy;obtain ⟨k,hk,rfl⟩:=zc4 hy;simp at hk;simpa using h1 k oM oM
 have f2:(l.drop i).filter (fun y=>decide (y<x))=[]:=by
  rw[List.filter_eq_nil_iff];intro y hy;obtain ⟨k,hk,rfl⟩:=zc4 hy;simp at hk;have:=h2 (i+k) oM oM;simp only[List.getElem_drop];simp;omega
 rw[f1,f2];simp;omega
theorem ye {l:List Int}{x:Int}{i:Nat}(hs:l.Pairwise (· ≤ ·))(h1:∀ k (h:k<l.length),k<i→l[k]<x)(h2:∀ k (h:k<l.length),i≤k→x≤l[k])(hi:i<l.length):decide (l[i]=x)=l.contains x:=by
 rw[Bool.eq_iff_iff];simp;constructor
 ·intro e; rw[← e]; exact gM hi
 ·intro hm;obtain ⟨k,hk,e⟩:=zc4 hm;have hki:i≤k:=by
   rcases Nat.lt_or_ge k i with h | h
   ·have:=h1 k hk h; omega
   ·exact h
  have h3:=h2 i hi (lR _)
  rcases Nat.eq_or_lt_of_le hki with rfl | h
  ·exact e
  ·have:=zc6.1 hs i k hi hk h;omega
theorem xS {l:List Int}{x:Int}{i:Nat}(h1:∀ k (h:k<l.length),k<i→l[k]<x)(hi:¬ i<l.length):l.contains x=false:=by
 rw[Bool.eq_false_iff];intro hm;simp at hm;obtain ⟨k,hk,e⟩:=zc4 hm;have:=h1 k hk oM;omega
theorem qF (E:World)(g:PH)(s:Own)(v:Value)(l:List Int)(x:Int)(hv:bT g v l)(hl:l.length<1099511627776)(hs:l.Pairwise (· ≤ ·)) :
  Ctr Tryz.prog E 74 #[v,vi x] g s (fun r g' s'=>r = .tuple #[vi (lbI l x),vb (l.contains x)]∧g=g'∧s=s'):=by
 obtain ⟨p,c,rfl⟩:=za2 hv;refine za9 (args:=[.slice p l.length c,vi x]) func74 I ntmps74 (bE I) ?_;refine rZ (lA I (aT I (sW I (lU (eN ak I) (aT I (sW I (lA I (aT I (sQ (bK ?_))))))))));refine oP (ι:=Nat×Nat) (fun q=>[(0,.slice p l.length c),(1,vi x),(6,vi l.length),(7,vi q.1),(8,vi q.2)]) (fun _=>g) (fun _=>s)
  (fun q=>q.1≤q.2∧q.2≤l.length∧(∀ k (h:k<l.length),k<q.1→l[k]<x)∧∀ k (h:k<l.length),q.2≤k→x≤l[k]) (fun q=>q.2 - q.1) (0,l.length)
  sB rfl rfl ⟨zf3 _,lR _,fun k _ h=>absurd h oM,fun k h1 h2=>absurd h1 (by dsimp only at h2; omega)⟩ ?_
 rintro ⟨i,j⟩ ⟨hij,hj,hlo,hhi⟩;dsimp only at hij hj hlo hhi ⊢;refine sQ (sW I (lM I (yL I (tZ ?_))));refine iP I (fun hlt=>?_) (fun hlt=>?_)
 ·have hb1:=za4 hv oM;have hmid:((i:Int)+(j:Int)) / 2=(((i+j) / 2:Nat):Int):=oM;have hml:(i+j) / 2<l.length:=oM;have hmx:l[((((i+j) / 2:Nat):Int)).toNat]?=some l[(i+j) / 2]:=gE hml;refine kP (tN (bK (sW I (lM I (yD I (lU (zd5 uT3 iU I) (lU (SU.shr I I dC) (lU (SU.eq (zd5 iU uT3 I) (zd8 vi ((jI _ oM oM).trans hmid))) (aT I (sW I (lM I (lU (iA ak zT3 I I hb1 oM sL) (lK (eB iT3 I (za5 hv) hmx I) (lM I (lW (cL call124 I (Ct E g _ l[(i+j) / 2] x)) ?_)))))))))))))));rintro _ _ _ ⟨rfl,rfl,rfl⟩;refine tZ ?_;refine iP I (fun hc=>?_) (fun hc=>?_)
  ·refine rG (lM I (yD I (lA I (nL (bN ?_)))));refine gA ((i+j) / 2+1,j) sB I I ⟨lN,hj,fun k hk h=>?_,hhi⟩ lN;dsimp only at h
   rcases Nat.eq_or_lt_of_le (show k≤(i+j) / 2 by omega) with rfl | h'
   ·exact hc
   ·have:=zc6.1 hs k ((i+j) / 2) hk hml h';omega
  ·refine rG (lM I (lA I (nL (bN ?_))));refine gA (i,(i+j) / 2) sB I I ⟨lN,lN,hlo,fun k hk h=>?_⟩ lN;dsimp only at h
   rcases Nat.eq_or_lt_of_le (show (i+j) / 2≤k by omega) with h' | h'
   ·subst h'; omega
   ·have:=zc6.1 hs ((i+j) / 2) k hml hk h';omega
 ·have hie:i=j:=oM;subst hie;have hlb:=GU hj hlo hhi;have hx0:=fun h=>za4 hv h;have hget:(i:Int)<(l.length:Int)→l[((i:Nat):Int).toNat]?=some (l.getD i 0):=fun h=>by
   have h2:i<l.length:=oM;rw[show ((i:Nat):Int).toNat=i by omega,gE h2,zg7,gE h2]; rfl
  have hfnd:(i:Int)<(l.length:Int)→decide (l.getD i 0=x)=l.contains x:=fun h=>by
   have h2:i<l.length:=oM;rw[← ye hs hlo hhi h2,zg7,gE h2]; rfl
  have hnot:¬ (i:Int)<(l.length:Int)→l.contains x=false:=fun h=>xS hlo oM;generalize l.getD i 0=y at hget hfnd;refine xI (tX (tX (bX (tN (sW I (lM I (lM I (yL I (lM I ?_)))))))));refine sP ?_ ?_
  ·intro h35;refine yC I (yC I (lY I I I (iA ak zT3 I I (hx0 oM) oM sL) (SL.gq (gT I I I dC) (eB iT3 I (za5 hv) (hget h35) I) dC (yC I (lY I I I (eQ I I) (yC I ?_))))));refine sP ?_ ?_
   ·intro h42;refine yA I (yA I (yA I (yA I (yA I (yA I (yB I (yB I (yA I (lY I I I (wT I I) (yP I (lA I (aT I (rE ?_)))))))))))))
    first | exact ST.ret2 (.inl rfl) results74 rfl rfl ⟨by rw[hlb,hnot h35],rfl,rfl⟩ | exact ST.ret2 (.inl rfl) results74 rfl rfl ⟨by rw[hlb,← hfnd h35,zf5 h42],rfl,rfl⟩ | exact ST.ret2 (.inl rfl) results74 rfl rfl ⟨by rw[hlb,← hfnd h35,zf4 h42],rfl,rfl⟩
   ·intro h42;refine yC I (yC I (lY I I I (iA ak zT3 I I (hx0 oM) oM sL) (SL.gq (gT I I I dC) (eB iT3 I (za5 hv) (hget h35) I) dC (zd7 (gT I I I dC) (cL call125 I (wL E g s _)) dC ?_))));rintro _ _ _ ⟨rfl,rfl,rfl⟩;refine yC I (yA I (yA I (lY I I I (wF I I) (lY I I I (wF I I) (yP I (lA I (aT I (rE ?_))))))))
    first | exact ST.ret2 (.inl rfl) results74 rfl rfl ⟨by rw[hlb,hnot h35],rfl,rfl⟩ | exact ST.ret2 (.inl rfl) results74 rfl rfl ⟨by rw[hlb,← hfnd h35,zf5 h42],rfl,rfl⟩ | exact ST.ret2 (.inl rfl) results74 rfl rfl ⟨by rw[hlb,← hfnd h35,zf4 h42],rfl,rfl⟩
  ·intro h35;refine yA I (yA I (yA I (yA I (yA I (yA I (yA I (yB I (yB I (yB I (yB I (yB I (yB I (yB I (yB I (yB I (yA I (yF I (lA I (aT I (rE ?_))))))))))))))))))))
   first | exact ST.ret2 (.inl rfl) results74 rfl rfl ⟨by rw[hlb,hnot h35],rfl,rfl⟩ | exact ST.ret2 (.inl rfl) results74 rfl rfl ⟨by rw[hlb,← hfnd h35,zf5 h42],rfl,rfl⟩ | exact ST.ret2 (.inl rfl) results74 rfl rfl ⟨by rw[hlb,← hfnd h35,zf4 h42],rfl,rfl⟩
def cH (n:Int):Int:=1 - 2 * (n % 2)
theorem rV (n:Int):IntKind.i64.wrap ((BitVec.ofInt IntKind.i64.bits n &&& BitVec.ofInt IntKind.i64.bits 1).toNat:Int)=n % 2:=by
 have h1:(BitVec.ofInt 64 n &&& BitVec.ofInt 64 1).toNat=(n % 2).toNat:=by
  rw[BitVec.toNat_and,show (BitVec.ofInt 64 1).toNat=1 from rfl,Nat.and_one_is_mod,BitVec.toNat_ofInt];omega
 show IntKind.i64.wrap ((BitVec.ofInt 64 n &&& BitVec.ofInt 64 1).toNat:Int)=n % 2;rw[h1,zk8 _ oM];omega
theorem BS (E:World)(g:PH)(s:Own)(n:Int):Ctr Tryz.prog E 105 #[vi n] g s (fun r g' s'=>r=vi (cH n)∧g=g'∧s=s'):=by
 refine za9 (args:=[vi n]) func105 I ntmps105 (bE I) ?_;refine rZ (aT I (sW I (lU (SU.eq (SU.and I I) (zd8 vi (rV n))) (lU (SU.mul I I oM) (lU (sU I I oM) (aT I (rE ?_)))))));exact za6 (.inl I) results105 I ⟨I,I,I⟩
theorem CD (l:List Cl):∀ acc:List Cl,∃ r,l.foldl gC acc=acc++r∧r.Sublist l:=by
 induction l with
 | nil=>intro acc; exact⟨[],by simp,.refl _⟩
 | cons c t ih =>
  intro acc;simp only[zi5];obtain ⟨r,h1,h2⟩:=ih (gC acc c);unfold gC at h1;unfold gC;split at h1
  ·rename_i hc;rw[zf7 hc];exact⟨r,h1,h2.cons _⟩
  ·rename_i hc;rw[zf6 hc];exact⟨c::r,by rw[h1]; simp,h2.cons_cons _⟩
theorem xD (l:List Cl):(ab l).Sublist (aa l):=by
 obtain ⟨r,h1,h2⟩:=CD (aa l) [];unfold ab;rw[h1];simpa using h2
theorem mP (l:List Cl):(aa l).map Cl.id=(sortBy Cl.id l).map Cl.id:=by
 unfold aa;rw[zi2];rfl
theorem fV (l:List Cl):((aa l).map Cl.id).Pairwise (· ≤ ·):=by
 rw[mP,zk1];exact dH l
theorem eV (l:List Cl):((ab l).map Cl.id).Pairwise (· ≤ ·):=(fV l).sublist ((xD l).map _)
def aN (tl ul:List Cl)(x y:Int):Int:=lbI (tl.map Cl.id) x * ul.length+lbI (ul.map Cl.id) y+1
theorem Fk (l:List Int)(x:Int):lbI l x≤l.length:=zc2 _ _
theorem wD {a b:Nat}(ha:a≤4000)(hb:b≤4000):(a:Int) * (b:Int)≤16000000∧0≤(a:Int) * (b:Int):=by
 have:a * b≤4000 * 4000:=Nat.mul_le_mul ha hb;have e:(a:Int) * (b:Int)=((a * b:Nat):Int):=by simp
 omega
theorem Tab.ptr {g:PH}{v:Value}{tl:List Cl}(h:Tab g v tl):∃ b,v=pp b 0:=by
 obtain ⟨b,_,_,_,h1,_⟩:=h;exact⟨b,h1⟩
theorem CX {l:List Cl}(h:(bg l).2=0):l.length≤4000:=by
 unfold bg at h;split at h
 ·simp at h
 ·omega
theorem Tryz.buildE30 (w:World):(Instr.build 30 #[]).run Tryz.prog w = .ok (.agg #[.slice none 0 0]) w:=by
 simp[Instr.build,Instr.fill];rfl
theorem Tryz.buildC78 (x y:Int)(w:World):(Instr.build 78 #[(0,vi x),(1,vi y)]).run Tryz.prog w = .ok (.agg #[vi x,vi y,.slice none 0 0]) w:=by
 have hz:(Value.agg #[vi 0,vi 0,Value.slice none 0 0]).cells = #[vi 0,vi 0,.slice none 0 0]:=rfl;have h1:∀ z:Int,(vi z).cells = #[vi z]:=fun _=>rfl;simp[Instr.build,Instr.fill,hz,h1]
theorem Tryz.buildS94 (x y:Int)(w:World):(Instr.build 94 #[(0,vi x),(1,vi y)]).run Tryz.prog w = .ok (.agg #[vi x,vi y]) w:=by
 have hz:(Value.agg #[vi 0,vi 0]).cells = #[vi 0,vi 0]:=rfl;have h1:∀ z:Int,(vi z).cells = #[vi z]:=fun _=>rfl;simp[Instr.build,Instr.fill,hz,h1]
theorem i5 {α β γ:Type}(l:List α)(m:List β)(f:α→β→γ):(l.flatMap fun x=>m.map (f x)).length=l.length * m.length:=by
 induction l with
 | nil=>simp
 | cons x t ih=>rw[zh2,ze2,ih,ze3,ze5,Nat.succ_mul]; omega
theorem wk (n:Int):cH n=1∨cH n = -1:=by unfold cH; omega
def n8 (a b:List Cl):Bool:=!decide ((bg a).2=0) || !decide ((bg b).2=0)||decide ((a.length:Int) * b.length>4000)
theorem zD {a b:List Cl}(h:n8 a b=false):(bg a).2=0∧(bg b).2=0∧(a.length:Int) * b.length≤4000:=by
 simp only[n8,Bool.or_eq_false_iff,Bool.not_eq_false',zj2,decide_eq_false_iff_not] at h;exact⟨h.1.1,h.1.2,oM⟩
theorem vK {tl:List Cl}:∀ {l:List Cl} {last:Int} {p:Int×Int},gK tl l last=some p→p.2≠0
 | [],_,_,h=>by simp[gK] at h
 | y::r,last,p,h=>by
  unfold gK at h;split at h
  ·injection h with h; subst h; show (20:Int)≠0; decide
  ·split at h
   ·rename_i h0; injection h with h; subst h; exact h0
   ·exact vK h
theorem yf {tl:List Cl}{c:Cl}(h:ct tl c=0):0≤c.dim∧c.dim≤8:=by
 unfold ct at h;split at h
 ·simp at h
 ·rename_i hdb;simp[eZ] at hdb;omega
theorem aq (l:List Cl):(aa l).length=l.length:=by simp[aa,fL]
theorem pn (l:List Cl):(ab l).length≤l.length:=by
 rw[← aq l];exact (xD l).length_le
def di (tl ul:List Cl)(x y:Cl):Cl:=⟨aN tl ul x.id y.id,x.dim+y.dim,x.sides.map (fun q=>⟨aN tl ul q.cell y.id,q.sign⟩)++y.sides.map (fun q=>⟨aN tl ul x.id q.cell,cH x.dim * q.sign⟩)⟩
def de (a b:List Cl):List Cl:=(aa a).flatMap fun x=>(aa b).map (di (ab a) (ab b) x)
def FI (a b:List Cl):List Cl:=if n8 a b then [] else if (bg (de a b)).2=0 then aa (de a b) else []
theorem AH (E:World)(g:PH)(s:Own)(v:Value)(l:List Int)(hv:bT g v l)(hn:l.length<17592186044416) :
  Ctr Tryz.prog E 96 #[v] g s (fun r g' s'=>g=g'∧s'=rowA encInt 3 r l::s):=by
 obtain ⟨p,c,rfl⟩:=za2 hv;refine za9 (args:=[.slice p l.length c]) func96 I ntmps96 (bE I) ?_;refine rZ (aT I (sQ (sW I (lU (SU.eqlNil ak I I) (tZ ?_)))));refine iQ I (fun hp=>?_) (fun hp=>?_)
 ·refine rZ (aT I (rE (tR ?_)));have hl:l=[]:=by
   cases l with
   | nil=>rfl
   | cons x r =>
    have hb:=za4 hv (by simp);cases p with
    | none=>simp[based] at hb
    | some q=>simp at hp
  subst hl;refine ST.nilRow 3 1 ?_;exact za6 (.inl I) results96 I ⟨I,I⟩
 ·refine kP (tN (rZ (lW (bS sty25 I I I (ae trivial) dC) ?_)));rintro _ _ _ ⟨b5,rfl,rfl,rfl⟩;refine SL.emptyRow 3 1 (some ⟨b5,0,none⟩) (lM I (lW (SO.appendE (m:=l.length) 0 l.length (l.flatMap encInt.enc) sty25 I I I I I (Sl.rd hv) (encInt.length l) (encInt.ones l) oM (by simp) oM oM) ?_));rintro r7 _ _ ⟨rfl,rfl⟩;refine aT I (rE (dR (s':=rowA encInt 3 r7 l::s) (.cons_cons _ (.cons _ (.refl _))) ?_));exact za6 (.inl I) results96 I ⟨I,I⟩
def orI:List Int→Int
 | []=>0
 | a::r=>if a≠0 then a else orI r
def gx:List Int→List Int→Int
 | [],[]=>0
 | [],_::_=>-1
 | _::_,[]=>1
 | a::r,b::t=>if mU a b≠0 then mU a b else gx r t
def aj (a b:List Int):Int:=if mU a.length b.length≠0 then mU a.length b.length else gx a b
theorem Gi (E:World)(g:PH)(s:Own)(v:Value)(l:List Int)(hv:Rd g s v (l.flatMap encInt.enc))(hf:∃ p c,v = .slice p l.length c)(hb:0<l.length→based v=true)(hl:l.length<1099511627776) :
  Ctr Tryz.prog E 140 #[v] g s (fun r g' s'=>r=vi (orI l)∧g=g'∧s=s'):=by
 obtain ⟨p,c,rfl⟩:=hf;refine za9 (args:=[.slice p l.length c]) func140 I ntmps140 (bE I) ?_;refine rZ (aT I (rZ (aT I (sQ (sW I (lU (eN ak I) (lM I (tZ (bK ?_)))))))));refine oP (ι:=Nat) (fun k=>[(3,vi 0),(6,.slice p l.length c),(7,vi l.length),(8,vi k)]) (fun _=>g) (fun _=>s) (fun k=>k≤l.length∧orI l=orI (l.drop k)) (fun k=>l.length - k) 0
  sB rfl rfl ⟨zf3 _,by simp⟩ ?_
 rintro k ⟨hk,heq⟩;refine rZ (yL I (tZ (sQ ?_)));refine iP I (fun hlt=>?_) (fun hlt=>?_)
 ·have hkl:k<l.length:=oM;have hb1:=hb oM;have hgx:l[((k:Nat):Int).toNat]?=some l[k]:=gE hkl;have hdrop:l.drop k=l[k]::l.drop (k+1):=zg3 hkl;generalize l[k]=x at *;rw[hdrop] at heq;refine kP (tN (sQ (bK (rZ (lU (iA ak zT3 I I hb1 oM sL) (lK (eB iT3 I hv hgx I) (aT I (sW I (lM I (lU (nQ I I) (tZ ?_)))))))))));refine iP I (fun hd=>?_) (fun hd=>?_)
  ·refine sW I (aT I (rE (bR (tR (tR (bR (tR ?_)))))));exact za6 (.inl I) results140 I ⟨by rw[heq,orI,zf7 hd],I,I⟩
  ·refine kP (bN (tN (rG (yD I (lM I (nL ?_))))));exact gA (k+1) sB I I ⟨oM,by rw[heq,orI,zf6 hd]⟩ oM
 ·refine xI (tX (tX (bX (tN (sW I (aT I (rE ?_)))))));have hkk:l.drop k=[]:=List.drop_of_length_le oM;rw[hkk] at heq;exact za6 (.inl I) results140 I ⟨by rw[heq]; rfl,rfl,rfl⟩
theorem ur (E:World)(g:PH)(s:Own)(v u:Value)(l m:List Int)(hv:bT g v l)(hu:bT g u m)(hl:l.length<1099511627776) :
  Ctr Tryz.prog E 41 #[v,u] g s (fun r g' s'=>r=vb (decide (l=m))∧g=g'∧s=s'):=by
 obtain ⟨p,c,rfl⟩:=za2 hv;obtain ⟨q,d,rfl⟩:=za2 hu;refine za9 (args:=[.slice p l.length c,.slice q m.length d]) func41 I ntmps41 (bE I) ?_;refine rZ (aT I (sQ (sW I (lU (eN ak I) (lM I (lU (eN ak I) (lU (nQ I I) (tZ ?_))))))));refine iP I (fun hne=>?_) (fun hne=>?_)
 ·refine rZ (aT I (rE (tR ?_)));exact za6 (.inl I) results41 I ⟨by have:l≠m:=fun e=>hne (by rw[e]); simp[this],I,I⟩
 ·refine kP (tN (sQ (sW I (lU (eN ak I) (lM I (tZ (bK ?_)))))));have hlen:l.length=m.length:=oM;refine oP (ι:=Nat) (fun k=>[(0,.slice p l.length c),(1,.slice q m.length d),(12,vi l.length),(13,vi k)]) (fun _=>g) (fun _=>s) (fun k=>k≤l.length∧l.take k=m.take k) (fun k=>l.length - k) 0
   sB rfl rfl ⟨zf3 _,by simp⟩ ?_
  rintro k ⟨hk,heq⟩;refine rZ (yL I (tZ (sQ ?_)));refine iP I (fun hlt=>?_) (fun hlt=>?_)
  ·have hkl:k<l.length:=oM;have hkm:k<m.length:=oM;have hb1:=za4 hv oM;have hb2:=za4 hu oM;refine kP (tN (sQ (bK (sW I (aT I (sQ ?_))))));refine dW [] [(0,2),(1,2),(2,2),(3,1),(4,2),(5,2),(6,2),(7,1),(8,2)] zd9 kR ?_;refine yM I (yM I (pU I (iA ak zT3 I I hb1 oM sL) ?_));refine pQ I (eB iT3 I (za5 hv) (gE hkl) I) dC ?_;refine yM I (yM I (pU I (iA ak zT3 I I hb2 oM sL) ?_));refine pQ I (eB iT3 I (za5 hu) (gE hkm) I) dC ?_;refine pU I (nQ I I) (pN (tN ?_));refine iP I (fun hd=>?_) (fun hd=>?_)
   ·refine rZ (aT I (rE (bR (tR (tR (bR (tR ?_)))))));exact za6 (.inl I) results41 I ⟨by have:l≠m:=fun e=>hd (by simp[e]); simp[this],I,I⟩
   ·refine kP (bN (tN (rG (yD I (lM I (nL ?_))))));exact gA (k+1) sB I I ⟨oM,na hkl hkm heq (zg6 hd)⟩ oM
  ·refine xI (tX (tX (bX (tN (rZ (aT I (rE ?_)))))));have hkk:k=l.length:=oM;subst hkk;have:l=m:=pm hlen heq;exact za6 (.inl I) results41 I ⟨by simp[this],I,I⟩
theorem wU (E:World)(g:PH)(s:Own)(v u:Value)(l m:List Int)(hv:bT g v l)(hu:bT g u m)(hl:l.length<1099511627776) :
  Ctr Tryz.prog E 141 #[v,u] g s (fun r g' s'=>r=vi (gx l m)∧g=g'∧s=s'):=by
 obtain ⟨p,c,rfl⟩:=za2 hv;obtain ⟨q,d,rfl⟩:=za2 hu;refine za9 (args:=[.slice p l.length c,.slice q m.length d]) func141 I ntmps141 (bE I) ?_;refine rZ (aT I (sQ (sW I (lU (eN ak I) (lM I (tZ (bK ?_)))))));refine oP (ι:=Nat) (fun k=>[(0,.slice p l.length c),(1,.slice q m.length d),(9,.slice p l.length c),(10,vi l.length),(11,vi k)]) (fun _=>g) (fun _=>s) (fun k=>k≤l.length∧k≤m.length∧gx l m=gx (l.drop k) (m.drop k)) (fun k=>l.length - k) 0
  sB rfl rfl ⟨zf3 _,zf3 _,by simp⟩ ?_
 rintro k ⟨hk,hkm,heq⟩;refine rZ (yL I (tZ (sQ ?_)));refine iP I (fun hlt=>?_) (fun hlt=>?_)
 ·have hkl:k<l.length:=oM;have hb1:=za4 hv oM;have hgx:l[((k:Nat):Int).toNat]?=some l[k]:=gE hkl;have hdrop:l.drop k=l[k]::l.drop (k+1):=zg3 hkl;generalize l[k]=x at *;rw[hdrop] at heq;refine kP (tN (sQ (bK (sW I (lU (iA ak zT3 I I hb1 oM sL) (lK (eB iT3 I (za5 hv) hgx I) (lA I (aT I (sQ (sW I (lM I (lU (eN ak I) (lU (gQ I I) (tZ ?_))))))))))))));refine iP I (fun hge=>?_) (fun hge=>?_)
  ·refine rZ (aT I (rE (tR (bR (tR (tR (bR (tR ?_))))))));have hmk:m.drop k=[]:=List.drop_of_length_le oM;rw[hmk] at heq;exact za6 (.inl I) results141 I ⟨by rw[heq]; rfl,rfl,rfl⟩
  ·have hkm2:k<m.length:=oM;have hb2:=za4 hu oM;have hgy:m[((k:Nat):Int).toNat]?=some m[k]:=gE hkm2;have hdrop2:m.drop k=m[k]::m.drop (k+1):=zg3 hkm2;generalize m[k]=y at *;rw[hdrop2] at heq;refine kP (tN (sW I (lM I (lU (iA ak zT3 I I hb2 oM sL) (lK (eB iT3 I (za5 hu) hgy I) (aT I (sW I (lM I (lW (cL call90 I (gH E g _ x y)) ?_)))))))));rintro _ _ _ ⟨rfl,rfl,rfl⟩;refine aT I (sW I (lU (nQ I I) (tZ ?_)));refine iP I (fun hd=>?_) (fun hd=>?_)
   ·refine sW I (aT I (rE (bR (tR (tR (bR (tR ?_)))))));exact za6 (.inl I) results141 I ⟨by rw[heq,gx,zf7 hd],I,I⟩
   ·refine kP (bN (tN (rG (yD I (lM I (nL ?_))))));exact gA (k+1) sB I I ⟨oM,oM,by rw[heq,gx,zf6 hd]⟩ oM
 ·refine xI (tX (tX (bX (tN (sQ (sW I (lU (eN ak I) (lM I (lU (eN ak I) (yL I (tZ ?_)))))))))));have hkk:l.drop k=[]:=List.drop_of_length_le oM;rw[hkk] at heq;refine iP I (fun hll=>?_) (fun hll=>?_)
  ·refine rZ (aT I (rE (tR ?_)));have hkm2:k<m.length:=oM;have hdrop2:m.drop k=m[k]::m.drop (k+1):=zg3 hkm2;rw[hdrop2] at heq;exact za6 (.inl I) results141 I ⟨by rw[heq]; rfl,rfl,rfl⟩
  ·refine kP (tN (rZ (aT I (rE ?_))));have hmk:m.drop k=[]:=List.drop_of_length_le oM;rw[hmk] at heq;exact za6 (.inl I) results141 I ⟨by rw[heq]; rfl,rfl,rfl⟩
theorem kS (E:World)(g:PH)(s:Own)(v u:Value)(l m:List Int)(hv:bT g v l)(hu:bT g u m)(hl:l.length<1099511627776) :
  Ctr Tryz.prog E 101 #[v,u] g s (fun r g' s'=>r=vi (aj l m)∧g=g'∧s=s'):=by
 obtain ⟨p,c,rfl⟩:=za2 hv;obtain ⟨q,d,rfl⟩:=za2 hu;refine za9 (args:=[.slice p l.length c,.slice q m.length d]) func101 I ntmps101 (bE I) ?_;refine rZ (aT I (sW I (lU (eN ak I) (lM I (lU (eN ak I) (lW (cL call90 I (gH E g _ l.length m.length)) ?_))))));rintro _ _ _ ⟨rfl,rfl,rfl⟩;refine lM I (lM I (lW (cL call141 I (wU E g _ _ _ l m hv hu hl)) ?_));rintro _ _ _ ⟨rfl,rfl,rfl⟩;refine lW (bS sty25 I I I (ae sB) dC) ?_;rintro _ _ _ ⟨b13,rfl,rfl,rfl⟩;refine lW (cL call140 I (Gi E g _ _ [mU l.length m.length,gx l m] (Rd.pt 0 I) ⟨_,_,I⟩ (fun _=>I) (by simp))) ?_;rintro _ _ _ ⟨rfl,rfl,rfl⟩;refine aT I (rE (dR (s':=s) uR ?_));exact za6 (.inl I) results101 I ⟨by unfold aj; simp only[orI]; split <;> simp_all,I,I⟩
def bJ (g:PH)(l:List Int)(r:Sv):Prop:=bT g (.slice r.p r.n r.c) l
theorem bJ.mono {g g':PH}(hl:Le g g'){l:List Int}{r:Sv}(h:bJ g l r):bJ g' l r:=za3 h hl
theorem bJ.len {g:PH}{l:List Int}{r:Sv}(h:bJ g l r):r.n=l.length:=(SlA.cap h).1
def aF (g:PH)(v:Value)(l:List (List Int)):Prop:=∃ rs,SlA encSv g v rs∧aB (bJ g) l rs
theorem aF.mono {g g':PH}{v:Value}{l:List (List Int)}(h:aF g v l)(hl:Le g g'):aF g' v l:=by
 obtain ⟨rs,h1,h2⟩:=h;exact⟨rs,h1.mono hl,h2.mono fun _ _=>bJ.mono hl⟩
def ef (bits:Nat)(l:List Int):List Int:=(l.zipIdx.filter fun p=>bits / 2 ^ p.2 % 2 == 1).map (·.1)
def bI (l:List Int):List (List Int):=(List.range (2 ^ l.length - 1)).map fun i=>ef (i+1) l
theorem AU:∀ n,n<10→IntKind.i64.wrap (1 * 2 ^ min ((n:Nat):Int).toNat IntKind.i64.bits)=((2 ^ n:Nat):Int):=by decide
theorem AS (b k:Nat)(hk:k<10):(((b:Nat):Int).fdiv (2 ^ min ((k:Nat):Int).toNat IntKind.i64.bits)) % 2=((b / 2 ^ k % 2:Nat):Int):=by
 have h1:min ((k:Nat):Int).toNat IntKind.i64.bits=k:=by
  have:IntKind.i64.bits=64:=rfl;rw[this]; omega
 rw[h1,Int.fdiv_eq_ediv_of_nonneg _ (Int.le_of_lt (Int.pow_pos dC))];simp
theorem AC (n:Nat)(h:n≤9):2 ^ n≤512:=by
 have:(2:Nat) ^ n≤2 ^ 9:=Nat.pow_le_pow_right dC h;simpa using this
theorem qY {bits k:Nat}{l:List Int}(h:k<l.length):ef bits (l.take (k+1))=if bits / 2 ^ k % 2=1 then ef bits (l.take k)++[l[k]] else ef bits (l.take k):=by
 unfold ef;rw[tS h,List.zipIdx_append,zh3,zg2];have:(List.take k l).length=k:=by rw[ze1]; omega
 rw[this];simp only[List.zipIdx_cons,List.zipIdx_nil,Nat.zero_add,zi4,List.filter_nil];by_cases hb:bits / 2 ^ k % 2=1
 ·simp[hb]
 ·simp[hb]
theorem fk (bits:Nat)(l:List Int):(ef bits l).length≤l.length:=by
 unfold ef;rw[ze3];have:=zc2 (fun p:Int×Nat=>bits / 2 ^ p.2 % 2 == 1) l.zipIdx;simpa using this
theorem uX (E:World)(g:PH)(s:Own)(v:Value)(l:List Int)(hv:bT g v l)(hl:l.length≤9) :
  Ctr Tryz.prog E 99 #[v] g s (fun r g' s'=>s=s'∧Le g g'∧aF g' r (bI l)):=by
 obtain ⟨p,c,rfl⟩:=za2 hv;have hpow:=AC l.length hl;refine za9 (args:=[.slice p l.length c]) func99 I ntmps99 (bE I) ?_;refine rZ (aT I (rZ (aT I (sQ (rZ (aT I (bK (zb4 25 1 ?_))))))));refine oP (ι:=PH×Value×Nat×List Sv) (fun i=>[(0,.slice p l.length c),(3,i.2.1),(4,vi (i.2.2.1+1:Nat))]) (fun i=>i.1)
  (fun i=>rowA encSv 25 i.2.1 i.2.2.2::s) (fun i=>Le g i.1∧i.2.2.1+1≤2 ^ l.length∧aB (bJ i.1) ((List.range i.2.2.1).map fun j=>ef (j+1) l) i.2.2.2) (fun i=>2 ^ l.length - i.2.2.1)
  (g,.slice none 0 0,0,[]) sB rfl rfl ⟨zb7 g,Nat.one_le_two_pow,trivial⟩ ?_
 rintro ⟨g1,ov,b,rs⟩ ⟨hle,hb,hall⟩;dsimp only at hle hb hall ⊢;have hrl:=hall.length;simp only[ze3,zi1] at hrl;refine sQ (sW I (lM I (lU (eN ak I) (lU (SU.eq (v':=vi ((2 ^ l.length:Nat):Int)) (SU.shl I I oM) (zd8 vi (AU l.length oM))) (yL I (tZ ?_))))));refine iP I (fun hlt=>?_) (fun hlt=>?_)
 ·have hbl:b+1<2 ^ l.length:=oM;refine kP (tN (sQ (bK (rZ (aT I (sQ (sQ (zb4 3 1 (rG (lM I (lU (eN ak I) (lM I (tZ (bK ?_))))))))))))));refine oP (ι:=Value×Nat) (fun i=>[(0,.slice p l.length c),(3,ov),(4,vi (b+1:Nat)),(5,i.1),(15,.slice p l.length c),(16,vi l.length),(17,vi i.2)]) (fun _=>g1)
   (fun i=>rowA encInt 3 i.1 (ef (b+1) (l.take i.2))::rowA encSv 25 ov rs::s) (fun i=>i.2≤l.length) (fun i=>l.length - i.2) (.slice none 0 0,0)
   sB rfl rfl (zf3 _) ?_
  rintro ⟨cv,k⟩ hk;dsimp only at hk ⊢;have hpl:=fk (b+1) (l.take k);rw[ze1] at hpl;refine rZ (yL I (tZ (sQ ?_)));refine iP I (fun hlt2=>?_) (fun hlt2=>?_)
  ·have hkl:k<l.length:=oM;have hb1:=za4 (hv.mono hle) oM;have hsucc:=qY (bits:=b+1) hkl;refine kP (tN (sQ (bK (sW I (lU (iA ak zT3 I I hb1 oM sL) ?_)))));refine SL.q (eB iT3 I (za5 (hv.mono hle)) (gE hkl) I) dC ?_;refine lA I (aT I (sW I (lM I (lU (SU.shr I I oM) (lU (SU.eq (v':=vi (((b+1) / 2 ^ k % 2:Nat):Int)) (SU.and I I) (zd8 vi ((rV _).trans (AS (b+1) k oM)))) (yE I (tZ ?_)))))));refine iP I (fun hbit=>?_) (fun hbit=>?_)
   ·refine rG (lM I (lM I (lW (bS sty25 I I I (ae sB) dC) ?_)));rintro _ _ _ ⟨b29,rfl,rfl,rfl⟩;refine lW (aP 0 l[k] sty25 I I I I I oM oM) ?_;rintro cv' _ _ ⟨rfl,rfl⟩;refine lA I (nL (bN (tN (rG (yD I (lM I (nL ?_)))))));refine ST.to (fun w hw=>?_) (g':=g1) (s':=rowA encInt 3 cv' (ef (b+1) (l.take (k+1)))::rowA encSv 25 ov rs::s) ?_
    ·rw[hsucc,zf7 oM]; exact hw
    exact gA (cv',k+1) sB I I lN lN
   ·refine kP (bN (tN (rG (yD I (lM I (nL ?_))))));refine ST.to (fun w hw=>?_) (g':=g1) (s':=rowA encInt 3 cv (ef (b+1) (l.take (k+1)))::rowA encSv 25 ov rs::s) ?_
    ·rw[hsucc,zf6 oM]; exact hw
    exact gA (cv,k+1) sB I I lN lN
  ·have hkk:l.take k=l:=tL oM;refine xI (tX (tX (bX (tN (rG (fR fun g2 hle2 hs2=>?_))))));rw[hkk] at hs2;obtain ⟨q2,d2,rfl⟩:=za2 (e:=encInt) hs2;refine lM I (lM I (lW (bS sty22 I I I (ae sB) dC) ?_));rintro _ _ _ ⟨b34,rfl,rfl,rfl⟩;refine lW (aP (e:=encSv) 0 ⟨q2,(ef (b+1) l).length,d2⟩ sty22 I I I I I oM oM) ?_;rintro ov' _ _ ⟨rfl,rfl⟩;refine lA I (nL (bN (tN (rG (lM I (yD I (lA I (nL ?_))))))));exact gA (g2,ov',b+1,rs++[⟨q2,(ef (b+1) l).length,d2⟩]) ⟨I,I,bP (by simp),trivial⟩ I I ⟨hle.trans hle2,hbl,by
    dsimp only;rw[List.range_succ,zg2];exact (hall.mono fun _ _=>bJ.mono hle2).append ⟨hs2,trivial⟩⟩ lN
 ·refine xI (tX (tX (bX (tN (sW I (aT I (rE (fT fun g2 hle2 hs2=>?_))))))));have hbb:b=2 ^ l.length - 1:=oM;exact za6 (.inl I) results99 I ⟨I,hle.trans hle2,rs,hs2,by rw[hbb] at hall; exact hall.mono fun _ _=>bJ.mono hle2⟩
def aX {α:Type}(eq:α→α→Bool):α→List α→List α
 | _,[]=>[]
 | x,y::r=>if eq y x then aX eq y r else y::aX eq y r
def ig {α:Type}(eq:α→α→Bool):List α→List α
 | []=>[]
 | x::r=>x::aX eq x r
theorem i8 {α:Type}(eq:α→α→Bool):∀ (x:α) (a:List α) (y:α) (r:List α),aX eq x (a++y::r)=aX eq x (a++[y])++aX eq y r
 | x,[],y,r=>by simp only[List.nil_append,aX]; split <;> simp
 | x,z::a,y,r=>by
  simp only[List.cons_append,aX];split
  ·exact i8 eq z a y r
  ·rw[i8 eq z a y r]; rfl
theorem i4 {α:Type}(eq:α→α→Bool)(a:List α)(y:α)(r:List α):ig eq (a++y::r)=ig eq (a++[y])++aX eq y r:=by
 cases a with
 | nil=>rfl
 | cons x a=>simp only[List.cons_append,ig]; rw[i8]
theorem lL {α:Type}(eq:α→α→Bool):∀ (x:α) (r:List α),(aX eq x r).length≤r.length
 | _,[]=>lR _
 | x,y::r=>by
  have:=lL eq y r;simp only[aX];split <;> simp <;> omega
theorem iZ {α:Type}(eq:α→α→Bool)(l:List α):(ig eq l).length≤l.length:=by
 cases l with
 | nil=>exact lR _
 | cons x r=>have:=lL eq x r; simp[ig]; exact this
theorem xG {α:Type}{l:List α}{k:Nat}(h:k+1<l.length):∃ A x y R,l=A++x::y::R∧A.length=k:=by
 refine⟨l.take k,l[k],l[k+1],l.drop (k+2),?_,by rw[ze1]; omega⟩;have h1:l.drop k=l[k]::l.drop (k+1):=zg3 oM;have h2:l.drop (k+1)=l[k+1]::l.drop (k+2):=zg3 oM;rw[← h2,← h1,zi8]
theorem rK {α:Type}(A:List α)(x:α)(R:List α):(A++x::R).take (A.length+1)=A++[x]:=by
 rw[List.take_append,tL oM];simp
theorem jY {α:Type}(eq:α→α→Bool){l:List α}(h:l.length<2):ig eq l=l:=by
 match l,h with
 | [],_=>rfl
 | [a],_=>rfl
theorem rL {b o n c l k:Nat}(h:l<c):sliced (some ⟨b,o,none⟩) l n c k = .slice (some ⟨b,o+l * k,none⟩) (n - l) (c - l):=by
 have hadd:(⟨b,o,none⟩:Addr).add (l * k)=⟨b,o+l * k,none⟩:=by unfold Addr.add; split <;> simp_all
 simp only[sliced];rw[zf6 oM];simp[hadd]
theorem FH {b o n c k:Nat}:sliced (some ⟨b,o,none⟩) 0 n c k = .slice (some ⟨b,o,none⟩) n c:=by
 have hadd:(⟨b,o,none⟩:Addr).add 0=⟨b,o,none⟩:=by unfold Addr.add; split <;> simp_all
 simp[sliced,hadd]
theorem A4 {α:Type}{k:Nat}{e:Enc α k}{E:World}{g:PH}{s:Own}{w:World}{T:TypeId}{p:Option Addr}{c i:Nat}{l:List α}(h:At E g s w)(hi:s[i]?=some (rowA e T (.slice p l.length c) l))(h0:0<l.length):∃ b cap,p=some ⟨b,0,none⟩∧c=cap+1∧l.length≤cap+1:=by
 obtain ⟨_,h1⟩:=ge h hi
 rcases h1 with ⟨q,_,h2⟩ | ⟨b,cap,cur,he,_,hle,_⟩
 ·omega
 ·injection he with e1 e2 e3
  exact⟨b,cap,e1,e3,hle⟩
theorem EC {α:Type}(e1:Enc α 1)(val:α→Value)(hval:∀ a,e1.enc a=[val a])(hvc:∀ a,(val a).cells = #[val a])(E:World)(g:PH)(s:Own)(v:Value)(fn:FuncId)(eq:α→α→Bool)(l:List α)(hl:l.length<1099511627776)
  (hcall:∀ a b s',cI Tryz.prog E (.func (.func fn) #[] #[]) [val a,val b] g s' (fun r g' s''=>r=vb (eq a b)∧g=g'∧s'=s'')) :
  Ctr Tryz.prog E 102 #[v,.func (.func fn) #[] #[]] g (rowA e1 25 v l::s) (fun r g' s'=>g=g'∧s'=rowA e1 25 r (ig eq l)::s):=by
 refine Ctr.facts fun ⟨w0,hw0⟩=>?_;obtain ⟨p,c,rfl⟩:=ah (i:=0) hw0 rfl;have hrow:=fun h=>A4 (i:=0) hw0 rfl h;clear hw0 w0;refine za9 (args:=[.slice p l.length c,.func (.func fn) #[] #[]]) func102 I ntmps102 (bE I) ?_;refine rZ (aT I (sQ (sW I (lU (eN bH I) (yL I (tZ ?_))))));refine iP I (fun h2=>?_) (fun h2=>?_)
 ·refine sW I (aT I (rE (tR ?_)));exact za6 (.inl I) results102 I ⟨I,by rw[jY eq oM]⟩
 ·obtain ⟨b,cap,rfl,rfl,hcap⟩:=hrow oM;refine kP (tN (sQ (rZ (aT I (bK ?_)))));refine oP (ι:=Nat) (fun k=>[(0,.slice (some ⟨b,0,none⟩) l.length (cap+1)),(1,.func (.func fn) #[] #[]),(5,vi (k+1))]) (fun _=>g) (fun _=>rowA e1 25 (.slice (some ⟨b,0,none⟩) l.length (cap+1)) l::s) (fun k=>k+1≤l.length∧ig eq (l.take (k+1))=l.take (k+1)) (fun k=>l.length - k) 0
   sB rfl rfl ⟨oM,jY eq (by rw[ze1]; omega)⟩ ?_
  rintro k ⟨hk,huq⟩;refine sQ (sW I (lM I (lU (eN bH I) (yL I (tZ ?_)))));refine iP I (fun hlt=>?_) (fun hlt=>?_)
  ·obtain ⟨A,x,y,R,hsp,hA⟩:=xG (l:=l) (k:=k) oM;have hlen:l.length=k+2+R.length:=by rw[hsp]; simp; omega
   have hg1:l[((k:Int)+1).toNat]?=some y:=by
    have h3:l=(A++[x])++y::R:=by rw[hsp]; simp
    rw[h3]; exact bV (by simp; omega)
   have hg0:l[((k:Int)+1 - 1).toNat]?=some x:=by rw[hsp]; exact bV oM
   have htk:l.take (k+1)=A++[x]:=by rw[hsp,← hA]; exact rK A x (y::R)
   rw[htk] at huq;refine kP (tN (sQ (bK (sQ ?_))));refine dW [] [(0,2),(1,2),(2,2),(3,2),(4,1),(5,2),(6,2),(7,2),(8,2),(9,1),(10,0)] zd9 kR ?_;refine yM I (yM I (yM I (pU I (iA bH bZ I I I oM sL) (pK I (eB dx I (zb5 0 I) hg1 (hval _)) (yM I (yM I (pU I (sU I I oM) (pU I (iA bH bZ I I I oM sL) (pK I (eB dx I (zb5 0 I) hg0 (hval _)) (SP.o I (SO.callV I I (hcall _ _ _)) dC (.inr iR) ?_))))))))));rintro _ _ _ ⟨rfl,rfl,rfl⟩;refine pN (tN ?_);refine iQ I (fun heq=>?_) (fun heq=>?_)
   ·have hU:ig eq l=(A++[x])++aX eq y R:=by rw[hsp,i4,huq]; simp only[aX,heq,if_true]
    refine sW I (lM I (lU (SU.eq (v':=.slice (some ⟨b,0+(k+1) * 1,none⟩) (l.length - (k+1)) (cap+1 - (k+1))) (SU.sliceL bH bZ I I oM oM) (by rw[show ((k:Int)+1).toNat=k+1 by omega]; exact rL oM)) ?_));refine aT I (sQ (rZ (aT I (bK ?_))));refine oP (ι:=List α×List α×α×List α×Nat) (fun i=>[(0,.slice (some ⟨b,0,none⟩) l.length (cap+1)),(1,.func (.func fn) #[] #[]),(5,vi i.1.length),(6,.slice (some ⟨b,0+(k+1) * 1,none⟩) (l.length - (k+1)) (cap+1 - (k+1))),(7,vi i.2.2.2.2)]) (fun _=>g)
     (fun i=>rowA e1 25 (.slice (some ⟨b,0,none⟩) l.length (cap+1)) (i.1++(i.2.1++[i.2.2.1])++i.2.2.2.1)::s)
     (fun i=>i.1.length+i.2.1.length=k+i.2.2.2.2∧1≤i.2.2.2.2∧ig eq l=i.1++aX eq i.2.2.1 i.2.2.2.1∧i.1.length+i.2.1.length+1+i.2.2.2.1.length=l.length) (fun i=>i.2.2.2.1.length)
     (A++[x],[],y,R,1) ⟨rfl,rfl,bP lN,rfl,rfl,trivial⟩ rfl (by dsimp only; rw[hsp]; simp) ⟨lN,lR _,hU,lN⟩ ?_
    rintro ⟨D,J0,z,R',n⟩ ⟨hn1,hn2,hu,hln⟩;dsimp only at hn1 hn2 hu hln ⊢;have hrl:(D++(J0++[z])++R').length=l.length:=lN;refine sQ (sW I (lM I (lU (eN bH I) (yL I (tZ ?_)))));refine iP I (fun hlt2=>?_) (fun hlt2=>?_)
    ·cases R' with
     | nil=>simp at hln; omega
     | cons y' R2 =>
     simp only[ze5] at hln;have hy1:((D++(J0++[z])++y'::R2).drop (k+1))[((n:Nat):Int).toNat]?=some y':=by
      rw[zh8]; exact bV lN
     have hy0:((D++(J0++[z])++y'::R2).drop (k+1))[((n:Nat):Int) - 1 |>.toNat]?=some z:=by
      rw[zh8,show D++(J0++[z])++y'::R2=(D++J0)++z::y'::R2 by simp]; exact bV lN
     have hrd:∀ s',Rd g (rowA e1 25 (.slice (some ⟨b,0,none⟩) l.length (cap+1)) (D++(J0++[z])++y'::R2)::s') (.slice (some ⟨b,0+(k+1) * 1,none⟩) (l.length - (k+1)) (cap+1 - (k+1))) (((D++(J0++[z])++y'::R2).drop (k+1)).flatMap e1.enc):=fun s'=>by
      rw[Nat.zero_add]; exact Rd.fromA (zb5 0 I)
     refine kP (tN (sQ (bK (sQ ?_))));refine dW [] [(0,2),(1,2),(2,2),(3,2),(4,1),(5,2),(6,2),(7,2),(8,2),(9,1),(10,0),(11,2)] zd9 kR ?_;refine yM I (yM I (yM I (pU I (iA bH bZ I I I oM sL) (pK I (eB dx I (hrd _) hy1 (hval _)) (yM I (yM I (pU I (sU I I oM) (pU I (iA bH bZ I I I oM sL) (pK I (eB dx I (hrd _) hy0 (hval _)) (SP.o I (SO.callV I I (hcall _ _ _)) dC (.inr iR) ?_))))))))));rintro _ _ _ ⟨rfl,rfl,rfl⟩;refine pU I (SU.not I) (pN (tN ?_));refine iQ I (fun hne=>?_) (fun hne=>?_)
     ·have hne':eq y' z=false:=by simpa using hne
      refine sW I (lM I (lM I (lM I (lU (iA bH bZ I I I oM sL) (lK (eB dx I (hrd _) hy1 (hval _)) (lU (iA bH bZ I I I oM sL) (oZ (sT (a:=y') 0 bZ I I I lN (by rw[hvc,hval])) ?_)))))));refine tZ (rG (lM I (yD I (lA I (nL (bN (tN (rG (lM I (yD I (lA I (nL ?_))))))))))));have hset:∃ J',(D++(J0++[z])++y'::R2).set ((D.length:Nat):Int).toNat y'=(D++[y'])++(J'++[y'])++R2∧J'.length=J0.length:=by
       cases J0 with
       | nil=>exact⟨[],by rw[show D++([]++[z])++y'::R2=D++z::y'::R2 by simp,dq oM]; simp,rfl⟩
       | cons j J1=>exact⟨J1++[z],by rw[show D++(j::J1++[z])++y'::R2=D++j::(J1++[z]++y'::R2) by simp,dq oM]; simp,by simp⟩
      obtain ⟨J',hset,hJ'⟩:=hset;refine ST.to (fun w hw=>?_) (g':=g) (s':=rowA e1 25 (.slice (some ⟨b,0,none⟩) l.length (cap+1)) ((D++[y'])++(J'++[y'])++R2)::s) ?_
      ·rw[← hset]; exact hw
      exact gA (D++[y'],J',y',R2,n+1) ⟨I,I,bP lN,I,I,trivial⟩ I I ⟨lN,lN,by rw[hu]; simp only[aX,hne']; simp,lN⟩ lN
     ·have he':eq y' z=true:=by simpa using hne
      refine kP (bN (tN (rG (lM I (yD I (lA I (nL ?_)))))));refine ST.to (fun w hw=>?_) (g':=g) (s':=rowA e1 25 (.slice (some ⟨b,0,none⟩) l.length (cap+1)) (D++((J0++[z])++[y'])++R2)::s) ?_
      ·rw[show D++((J0++[z])++[y'])++R2=D++(J0++[z])++y'::R2 by simp]; exact hw
      exact gA (D,J0++[z],y',R2,n+1) sB I I ⟨lN,lN,by rw[hu]; simp only[aX,he']; simp,lN⟩ lN
    ·have hR:R'=[]:=zf1 oM;subst hR;simp only[zc1] at hln;refine xI (tX (tX (bX (tN (rZ ?_)))));refine SL.to (fun w hw=>At.shrink (i:=0) (D:=D) (J:=J0++[z]) hw (by rw[zc3]; rfl) rfl) ?_;refine lM I (lM I (lU (SU.eq (v':=.slice (some ⟨b,D.length * 1,none⟩) (l.length - D.length) (cap+1 - D.length)) (SU.sliceL bH bZ I I oM oM) (by rw[Int.toNat_natCast,rL oM,Nat.zero_add])) ?_));refine lO (SO.clearA (D:=D) 0 sty22 (oa (l:=[.slice none 0 0]) ⟨I,trivial⟩) I I I oM) ?_;rintro _ _ _ ⟨rfl,rfl⟩;refine tZ (sW I (lM I (lU (SU.eq (v':=.slice (some ⟨b,0,none⟩) D.length (cap+1)) (SU.sliceH bH bZ I I oM oM) (by rw[Int.toNat_natCast]; exact FH)) ?_)));refine aT I (rE (bR (tR (tR (bR (tR ?_))))));exact za6 (.inl I) results102 I ⟨I,by rw[hu]; simp[aX]⟩
   ·refine kP (bN (tN (rG (lM I (yD I (lA I (nL ?_)))))));exact gA (k+1) ⟨I,I,bP oM,trivial⟩ I I ⟨oM,by
     have h3:l=(A++[x])++y::R:=by rw[hsp]; simp
     have h4:l.take (k+1+1)=(A++[x])++[y]:=by
      rw[h3,show k+1+1=(A++[x]).length+1 by simp; omega]; exact rK _ y R
     rw[h4,show (A++[x])++[y]=A++x::[y] by simp,i4,huq];simp[aX,heq]⟩ oM
  ·have hkk:k+1=l.length:=oM;rw[hkk,tL (lR _)] at huq;refine xI (tX (tX (bX (tN (sW I (aT I (rE ?_)))))));exact za6 (.inl I) results102 I ⟨I,by rw[huq]⟩
theorem ED (E:World)(g:PH)(s:Own)(v:Value)(l:List Int)(hl:l.length<17592186044416) :
  Ctr Tryz.prog E 98 #[v] g (rowA encInt 3 v l::s) (fun r g' s'=>g=g'∧s'=rowA encInt 3 r (ig (fun a b:Int=>decide (a=b)) l)::s):=by
 refine Ctr.facts fun ⟨w0,hw0⟩=>?_;obtain ⟨p,c,rfl⟩:=ah (i:=0) hw0 rfl;have hrow:=fun h=>A4 (i:=0) hw0 rfl h;clear hw0 w0;refine za9 (args:=[.slice p l.length c]) func98 I ntmps98 (bE I) ?_;refine rZ (aT I (sQ (sW I (lU (eN ak I) (yL I (tZ ?_))))));refine iP I (fun h2=>?_) (fun h2=>?_)
 ·refine sW I (aT I (rE (tR ?_)));exact za6 (.inl I) results98 I ⟨I,by rw[jY (fun a b:Int=>decide (a=b)) oM]⟩
 ·obtain ⟨b,cap,rfl,rfl,hcap⟩:=hrow oM;refine kP (tN (sQ (rZ (aT I (bK ?_)))));refine oP (ι:=Nat) (fun k=>[(0,.slice (some ⟨b,0,none⟩) l.length (cap+1)),(3,vi (k+1))]) (fun _=>g) (fun _=>rowA encInt 3 (.slice (some ⟨b,0,none⟩) l.length (cap+1)) l::s) (fun k=>k+1≤l.length∧ig (fun a b:Int=>decide (a=b)) (l.take (k+1))=l.take (k+1)) (fun k=>l.length - k) 0
   sB rfl rfl ⟨oM,jY (fun a b:Int=>decide (a=b)) (by rw[ze1]; omega)⟩ ?_
  rintro k ⟨hk,huq⟩;refine sQ (sW I (lM I (lU (eN ak I) (yL I (tZ ?_)))));refine iP I (fun hlt=>?_) (fun hlt=>?_)
  ·obtain ⟨A,x,y,R,hsp,hA⟩:=xG (l:=l) (k:=k) oM;have hlen:l.length=k+2+R.length:=by rw[hsp]; simp; omega
   have hg1:l[((k:Int)+1).toNat]?=some y:=by
    have h3:l=(A++[x])++y::R:=by rw[hsp]; simp
    rw[h3]; exact bV (by simp; omega)
   have hg0:l[((k:Int)+1 - 1).toNat]?=some x:=by rw[hsp]; exact bV oM
   have htk:l.take (k+1)=A++[x]:=by rw[hsp,← hA]; exact rK A x (y::R)
   rw[htk] at huq;refine kP (tN (sQ (bK (sQ ?_))));refine dW [] [(0,2),(1,2),(2,2),(3,1),(4,2),(5,2),(6,2),(7,2),(8,1),(9,2)] zd9 kR ?_;refine yM I (yM I (pU I (iA ak zT3 I I I oM sL) (pK I (eB iT3 I (zb5 0 I) hg1 I) (yM I (yM I (pU I (sU I I oM) (pU I (iA ak zT3 I I I oM sL) (pK I (eB iT3 I (zb5 0 I) hg0 I) (pU I (eQ I I) (pN (tN ?_)))))))))));refine iQ I (fun heq=>?_) (fun heq=>?_)
   ·have hU:ig (fun a b:Int=>decide (a=b)) l=(A++[x])++aX (fun a b:Int=>decide (a=b)) y R:=by rw[hsp,i4,huq]; simp only[aX,heq,if_true]
    refine sW I (lM I (lU (SU.eq (v':=.slice (some ⟨b,0+(k+1) * 1,none⟩) (l.length - (k+1)) (cap+1 - (k+1))) (SU.sliceL ak zT3 I I oM oM) (by rw[show ((k:Int)+1).toNat=k+1 by omega]; exact rL oM)) ?_));refine aT I (sQ (rZ (aT I (bK ?_))));refine oP (ι:=List Int×List Int×Int×List Int×Nat) (fun i=>[(0,.slice (some ⟨b,0,none⟩) l.length (cap+1)),(3,vi i.1.length),(4,.slice (some ⟨b,0+(k+1) * 1,none⟩) (l.length - (k+1)) (cap+1 - (k+1))),(5,vi i.2.2.2.2)]) (fun _=>g)
     (fun i=>rowA encInt 3 (.slice (some ⟨b,0,none⟩) l.length (cap+1)) (i.1++(i.2.1++[i.2.2.1])++i.2.2.2.1)::s)
     (fun i=>i.1.length+i.2.1.length=k+i.2.2.2.2∧1≤i.2.2.2.2∧ig (fun a b:Int=>decide (a=b)) l=i.1++aX (fun a b:Int=>decide (a=b)) i.2.2.1 i.2.2.2.1∧i.1.length+i.2.1.length+1+i.2.2.2.1.length=l.length) (fun i=>i.2.2.2.1.length)
     (A++[x],[],y,R,1) ⟨rfl,bP lN,rfl,rfl,trivial⟩ rfl (by dsimp only; rw[hsp]; simp) ⟨lN,lR _,hU,lN⟩ ?_
    rintro ⟨D,J0,z,R',n⟩ ⟨hn1,hn2,hu,hln⟩;dsimp only at hn1 hn2 hu hln ⊢;have hrl:(D++(J0++[z])++R').length=l.length:=lN;refine sQ (sW I (lM I (lU (eN ak I) (yL I (tZ ?_)))));refine iP I (fun hlt2=>?_) (fun hlt2=>?_)
    ·cases R' with
     | nil=>simp at hln; omega
     | cons y' R2 =>
     simp only[ze5] at hln;have hy1:((D++(J0++[z])++y'::R2).drop (k+1))[((n:Nat):Int).toNat]?=some y':=by
      rw[zh8]; exact bV lN
     have hy0:((D++(J0++[z])++y'::R2).drop (k+1))[((n:Nat):Int) - 1 |>.toNat]?=some z:=by
      rw[zh8,show D++(J0++[z])++y'::R2=(D++J0)++z::y'::R2 by simp]; exact bV lN
     have hrd:∀ s',Rd g (rowA encInt 3 (.slice (some ⟨b,0,none⟩) l.length (cap+1)) (D++(J0++[z])++y'::R2)::s') (.slice (some ⟨b,0+(k+1) * 1,none⟩) (l.length - (k+1)) (cap+1 - (k+1))) (((D++(J0++[z])++y'::R2).drop (k+1)).flatMap encInt.enc):=fun s'=>by
      rw[Nat.zero_add]; exact Rd.fromA (zb5 0 I)
     refine kP (tN (sQ (bK (sQ ?_))));refine dW [] [(0,2),(1,2),(2,2),(3,1),(4,2),(5,2),(6,2),(7,2),(8,1),(9,2)] zd9 kR ?_;refine yM I (yM I (pU I (iA ak zT3 I I I oM sL) (pK I (eB iT3 I (hrd _) hy1 I) (yM I (yM I (pU I (sU I I oM) (pU I (iA ak zT3 I I I oM sL) (pK I (eB iT3 I (hrd _) hy0 I) (pU I (nQ I I) (pN (tN ?_)))))))))));refine iQ I (fun hne=>?_) (fun hne=>?_)
     ·have hne':decide (y'=z)=false:=by simpa using hne
      refine sW I (lM I (lM I (lM I (lU (iA ak zT3 I I I oM sL) (lK (eB iT3 I (hrd _) hy1 I) (lU (iA ak zT3 I I I oM sL) (oZ (sT (a:=y') 0 zT3 I I I lN I) ?_)))))));refine tZ (rG (lM I (yD I (lA I (nL (bN (tN (rG (lM I (yD I (lA I (nL ?_))))))))))));have hset:∃ J',(D++(J0++[z])++y'::R2).set ((D.length:Nat):Int).toNat y'=(D++[y'])++(J'++[y'])++R2∧J'.length=J0.length:=by
       cases J0 with
       | nil=>exact⟨[],by rw[show D++([]++[z])++y'::R2=D++z::y'::R2 by simp,dq oM]; simp,rfl⟩
       | cons j J1=>exact⟨J1++[z],by rw[show D++(j::J1++[z])++y'::R2=D++j::(J1++[z]++y'::R2) by simp,dq oM]; simp,by simp⟩
      obtain ⟨J',hset,hJ'⟩:=hset;refine ST.to (fun w hw=>?_) (g':=g) (s':=rowA encInt 3 (.slice (some ⟨b,0,none⟩) l.length (cap+1)) ((D++[y'])++(J'++[y'])++R2)::s) ?_
      ·rw[← hset]; exact hw
      exact gA (D++[y'],J',y',R2,n+1) ⟨I,bP lN,I,I,trivial⟩ I I ⟨lN,lN,by rw[hu]; simp only[aX,hne']; simp,lN⟩ lN
     ·have he':decide (y'=z)=true:=by simpa using hne
      refine kP (bN (tN (rG (lM I (yD I (lA I (nL ?_)))))));refine ST.to (fun w hw=>?_) (g':=g) (s':=rowA encInt 3 (.slice (some ⟨b,0,none⟩) l.length (cap+1)) (D++((J0++[z])++[y'])++R2)::s) ?_
      ·rw[show D++((J0++[z])++[y'])++R2=D++(J0++[z])++y'::R2 by simp]; exact hw
      exact gA (D,J0++[z],y',R2,n+1) sB I I ⟨lN,lN,by rw[hu]; simp only[aX,he']; simp,lN⟩ lN
    ·have hR:R'=[]:=zf1 oM;subst hR;simp only[zc1] at hln;refine xI (tX (tX (bX (tN (rZ ?_)))));refine SL.to (fun w hw=>At.shrink (i:=0) (D:=D) (J:=J0++[z]) hw (by rw[zc3]; rfl) rfl) ?_;refine lM I (lM I (lU (SU.eq (v':=.slice (some ⟨b,D.length * 1,none⟩) (l.length - D.length) (cap+1 - D.length)) (SU.sliceL ak zT3 I I oM oM) (by rw[Int.toNat_natCast,rL oM,Nat.zero_add])) ?_));refine lO (SO.clearA (D:=D) 0 sty25 (oa (l:=[vi 0]) ⟨I,trivial⟩) I I I oM) ?_;rintro _ _ _ ⟨rfl,rfl⟩;refine tZ (sW I (lM I (lU (SU.eq (v':=.slice (some ⟨b,0,none⟩) D.length (cap+1)) (SU.sliceH ak zT3 I I oM oM) (by rw[Int.toNat_natCast]; exact FH)) ?_)));refine aT I (rE (bR (tR (tR (bR (tR ?_))))));exact za6 (.inl I) results98 I ⟨I,by rw[hu]; simp[aX]⟩
   ·refine kP (bN (tN (rG (lM I (yD I (lA I (nL ?_)))))));exact gA (k+1) ⟨I,bP oM,trivial⟩ I I ⟨oM,by
     have h3:l=(A++[x])++y::R:=by rw[hsp]; simp
     have h4:l.take (k+1+1)=(A++[x])++[y]:=by
      rw[h3,show k+1+1=(A++[x]).length+1 by simp; omega]; exact rK _ y R
     rw[h4,show (A++[x])++[y]=A++x::[y] by simp,i4,huq];simp[aX,heq]⟩ oM
  ·have hkk:k+1=l.length:=oM;rw[hkk,tL (lR _)] at huq;refine xI (tX (tX (bX (tN (sW I (aT I (rE ?_)))))));exact za6 (.inl I) results98 I ⟨I,by rw[huq]⟩
theorem Gv (E:World)(g:PH)(s:Own)(n:Nat)(hn:n<1099511627776) :
  Ctr Tryz.prog E 142 #[.slice none 0 0,vi n] g s (fun r g' s'=>g=g'∧s'=rowA encInt 3 r []::s):=by
 refine za9 (args:=[.slice none 0 0,vi n]) func142 I ntmps142 (bE I) ?_;refine rZ (aT I (sQ (sW I (yL I (tZ ?_)))));refine iP I (fun hneg=>?_) (fun hneg=>?_)
 ·exfalso;omega
 ·refine kP (tN (sQ (sW I (lM I (lU (SU.cap ak I) (lM I (lU (eN ak I) (lU (sU I I oM) (lU (SU.eq (v':=vi n) (sU I I oM) (zd8 vi oM)) (aT I (sW I (lU (gR I I) (tZ ?_)))))))))))));refine iP I (fun hpos=>?_) (fun hpos=>?_)
  ·refine rG (lM I (lM I (lU (SU.cap ak I) (lU (SU.eq (v':=.slice none 0 0) (SU.sliceH ak zT3 I I oM oM) I) (lM I (lW (SO.appendZ encInt sty25 uT3 I I oM oM oM) ?_))))));rintro _ _ _ ⟨b,cap,rfl,hcap,rfl,rfl⟩;refine lM I (lU (eN ak I) (lU (SU.eq (v':=.slice (some ⟨b,0,none⟩) 0 (cap+1)) (SU.sliceH ak zT3 I I oM oM) FH) (aT I (sW I (aT I (rE ?_))))));exact za6 (.inl I) results142 I ⟨I,I⟩
  ·refine kP (tN (sW I (aT I (rE (ST.nilRow 3 1 ?_)))));exact za6 (.inl I) results142 I ⟨I,I⟩
def iz (ls:List (List Int)):Nat:=(ls.map List.length).sum
theorem kF (ls:List (List Int))(k:Nat):iz (ls.take k)≤iz ls:=by
 have h:=zd8 (fun l=>(l.map List.length).sum) (zi8 k ls);simp only[zg2,List.sum_append] at h;unfold iz;omega
theorem po {ls:List (List Int)}{k:Nat}(h:k<ls.length):iz (ls.take (k+1))=iz (ls.take k)+ls[k].length:=by
 unfold iz;rw[tS h,zg2,List.sum_append];rfl
theorem qC (ls:List (List Int)):ls.flatten.length=iz ls:=List.length_flatten
theorem wS (E:World)(g:PH)(s:Own)(v:Value)(ls:List (List Int))(hv:aF g v ls)(hn:ls.length<1099511627776)(hl:iz ls<1099511627776) :
  Ctr Tryz.prog E 103 #[v] g s (fun r g' s'=>g=g'∧s'=rowA encInt 3 r ls.flatten::s):=by
 obtain ⟨rs,hrs,hall⟩:=hv;have hlen:=hall.length;obtain ⟨p,c,rfl⟩:=za2 hrs;refine za9 (args:=[.slice p rs.length c]) func103 I ntmps103 (bE I) ?_;refine rZ (aT I (rZ (aT I (sQ (sW I (lU (eN bH I) (lM I (tZ (bK ?_)))))))));refine oP (ι:=Nat) (fun k=>[(0,.slice p rs.length c),(3,vi (iz (ls.take k))),(9,.slice p rs.length c),(10,vi rs.length),(11,vi k)]) (fun _=>g) (fun _=>s) (fun k=>k≤rs.length) (fun k=>rs.length - k) 0
  sB rfl rfl (zf3 _) ?_
 rintro k hk;have hsl:=kF ls k;refine rZ (yL I (tZ (sQ ?_)));refine iP I (fun hlt=>?_) (fun hlt=>?_)
 ·have hkl:k<ls.length:=oM;have hkr:k<rs.length:=oM;have hR:=hall.get (gE hkl) (gE hkr);have hRl:=hR.len;have hb1:=hrs.based oM;have hs1:=po hkl;have hs2:=kF ls (k+1);refine kP (tN (sQ (bK (rZ (lU (iA bH bZ I I hb1 oM sL) ?_)))));refine SL.q (eB dx I hrs.rd (gE hkr) I) dC ?_;refine aT I (sW I (lM I (lU (eN ak I) (yD I (aT I (sW I (yL I (tZ ?_))))))));refine iP I (fun hneg=>?_) (fun hneg=>?_)
  ·exfalso;omega
  ·refine kP (bN (tN (rG (yD I (lM I (nL ?_))))));exact gA (k+1) ⟨I,bP oM,I,I,I,trivial⟩ I I oM oM
 ·have hkk:ls.take k=ls:=tL oM;refine xI (tX (tX (bX (tN (sW I (lW (cL call142 I (Gv E g s (iz (ls.take k)) oM)) ?_))))));rintro nv _ _ ⟨rfl,rfl⟩;refine aT I (sQ (sW I (lU (eN bH I) (lM I (tZ (bK ?_))))));refine oP (ι:=Value×Nat) (fun i=>[(0,.slice p rs.length c),(6,i.1),(25,.slice p rs.length c),(26,vi rs.length),(27,vi i.2)]) (fun _=>g) (fun i=>rowA encInt 3 i.1 (ls.take i.2).flatten::s) (fun i=>i.2≤rs.length) (fun i=>rs.length - i.2) (nv,0)
   sB rfl rfl (zf3 _) ?_
  rintro ⟨cv,m⟩ hm;dsimp only at hm ⊢;refine rZ (yL I (tZ (sQ ?_)));refine iP I (fun hlt2=>?_) (fun hlt2=>?_)
  ·have hml:m<ls.length:=oM;have hmr:m<rs.length:=oM;have hR:=hall.get (gE hml) (gE hmr);have hb1:=hrs.based oM;have hs1:=po hml;have hs2:=kF ls (m+1);have hs3:=qC (ls.take m);refine kP (tN (sQ (bK (rZ (lU (iA bH bZ I I hb1 oM sL) ?_)))));refine SL.q (eB dx I hrs.rd (gE hmr) I) dC ?_;refine aT I (rG (lM I (lM I (lW (aQ (e:=encInt) 0 sty25 I I I hR oM oM) ?_))));rintro cv' _ _ ⟨rfl,rfl⟩;refine lA I (nL (bN (tN (rG (yD I (lM I (nL ?_)))))));refine ST.to (fun w hw=>?_) (g':=g) (s':=rowA encInt 3 cv' (ls.take (m+1)).flatten::s) ?_
   ·rw[tS hml,List.flatten_append,List.flatten_singleton]; exact hw
   exact gA (cv',m+1) sB I I lN lN
  ·have hmm:ls.take m=ls:=tL oM;rw[hmm];refine xI (tX (tX (bX (tN (sW I (aT I (rE ?_)))))));exact za6 (.inl I) results103 I ⟨I,I⟩
def lbL (ls:List (List Int))(t:List Int):Nat:=(ls.filter fun x=>decide (aj x t<0)).length
theorem Fi {α:Type}{p:α→Bool}{l:List α}{i:Nat}(hi:i≤l.length)(h1:∀ k (h:k<l.length),k<i→p l[k]=true)(h2:∀ k (h:k<l.length),i≤k→p l[k]=false):(l.filter p).length=i:=by
 rw[← zi8 i l,zh3,ze2];have f1:(l.take i).filter p=l.take i:=List.filter_eq_self.2 fun x hx=>by
  obtain ⟨k,hk,rfl⟩:=zc4 hx;rw[ze1] at hk;rw[List.getElem_take];exact h1 k oM oM
 have f2:(l.drop i).filter p=[]:=List.filter_eq_nil_iff.2 fun x hx=>by
  obtain ⟨k,hk,rfl⟩:=zc4 hx;rw[ze6] at hk;rw[List.getElem_drop,h2 (i+k) oM oM];simp
 rw[f1,f2];simp;omega
theorem Ae (E:World)(g:PH)(s:Own)(v u:Value)(ls:List (List Int))(t:List Int)(hv:aF g v ls)(hu:bT g u t)(hl:ls.length<1099511627776)(hll:∀ x∈ls,x.length<1099511627776)
  (hs:∀ i j (hi:i<ls.length) (hj:j<ls.length),i<j→aj ls[j] t<0→aj ls[i] t<0) :
  Ctr Tryz.prog E 104 #[v,u,.func (.func 101) #[] #[]] g s (fun r g' s'=>(∃ b,r = .tuple #[vi (lbL ls t),vb b])∧g=g'∧s=s'):=by
 obtain ⟨rs,hrs,hall⟩:=hv;have hlen:=hall.length;obtain ⟨p,c,rfl⟩:=za2 hrs;refine za9 (args:=[.slice p rs.length c,u,.func (.func 101) #[] #[]]) func104 I ntmps104 (bE I) ?_;refine rZ (lA I (aT I (sW I (lU (eN bH I) (aT I (sW I (lA I (aT I (sQ (bK ?_))))))))));refine oP (ι:=Nat×Nat) (fun q=>[(0,.slice p rs.length c),(1,u),(2,.func (.func 101) #[] #[]),(8,vi rs.length),(9,vi q.1),(10,vi q.2)]) (fun _=>g) (fun _=>s)
  (fun q=>q.1≤q.2∧q.2≤ls.length∧(∀ k (h:k<ls.length),k<q.1→aj ls[k] t<0)∧∀ k (h:k<ls.length),q.2≤k→¬ aj ls[k] t<0) (fun q=>q.2 - q.1) (0,ls.length)
  ⟨rfl,rfl,rfl,rfl,rfl,bP oM,trivial⟩ rfl rfl ⟨zf3 _,lR _,fun k _ h=>absurd h oM,fun k h1 h2=>absurd h1 (by dsimp only at h2; omega)⟩ ?_
 rintro ⟨i,j⟩ ⟨hij,hj,hlo,hhi⟩;dsimp only at hij hj hlo hhi ⊢;refine sQ (sW I (lM I (yL I (tZ ?_))));refine iP I (fun hlt=>?_) (fun hlt=>?_)
 ·have hb1:=hrs.based oM;have hmid:((i:Int)+(j:Int)) / 2=(((i+j) / 2:Nat):Int):=oM;have hml:(i+j) / 2<ls.length:=oM;have hmr:(i+j) / 2<rs.length:=oM;have hmx:rs[((((i+j) / 2:Nat):Int)).toNat]?=some rs[(i+j) / 2]:=gE hmr;have hR:=hall.get (gE hml) (gE hmr);have hxl:=hll _ (gM hml);refine kP (tN (bK (sW I (lM I (yD I (lU (zd5 uT3 iU I) (lU (SU.shr I I dC) (lU (SU.eq (zd5 iU uT3 I) (zd8 vi ((jI _ oM oM).trans hmid))) (aT I (sW I (lM I (lM I (lU (iA bH bZ I I hb1 oM sL) (lK (eB dx I hrs.rd hmx I) (lM I (lW (SO.callV I I (cI.mk (args:=[_,_]) (cap:=[]) call101 (kS E g _ _ _ ls[(i+j) / 2] t hR hu hxl))) ?_))))))))))))))));rintro _ _ _ ⟨rfl,rfl,rfl⟩;refine yL I (tZ ?_);refine iP I (fun hc=>?_) (fun hc=>?_)
  ·refine rG (lM I (yD I (lA I (nL (bN ?_)))));refine gA ((i+j) / 2+1,j) sB I I ⟨lN,hj,fun k hk h=>?_,hhi⟩ lN;dsimp only at h
   rcases Nat.eq_or_lt_of_le (show k≤(i+j) / 2 by omega) with rfl | h'
   ·exact hc
   ·exact hs k ((i+j) / 2) hk hml h' hc
  ·refine rG (lM I (lA I (nL (bN ?_))));refine gA (i,(i+j) / 2) sB I I ⟨lN,lN,hlo,fun k hk h=>?_⟩ lN;dsimp only at h
   rcases Nat.eq_or_lt_of_le (show (i+j) / 2≤k by omega) with h' | h'
   ·subst h'; exact hc
   ·exact fun hx=>hc (hs ((i+j) / 2) k hml hk h' hx)
 ·have hie:i=j:=oM;subst hie;have hlb:lbL ls t=i:=Fi hj (fun k h h'=>by simpa using hlo k h h') (fun k h h'=>by simpa using hhi k h h');have hx0:=fun h=>hrs.based h;have hx:(i:Int)<(rs.length:Int)→∃ r,rs[((i:Nat):Int).toNat]?=some r∧∃ x,bJ g x r∧x.length<1099511627776:=fun h=>by
   have h2:i<ls.length:=oM;have h3:i<rs.length:=oM;exact⟨rs[i],gE h3,ls[i],hall.get (gE h2) (gE h3),hll _ (gM h2)⟩
  by_cases hin:(i:Int)<(rs.length:Int)
  ·obtain ⟨r,hr,x,hxr,hxl⟩:=hx hin;have hd:decide ((i:Int)<(rs.length:Int))=true:=zf5 hin;refine xI (tX (tX (bX (tN (sW I (lM I (lM I (lU (SU.eq (lS I I) (zd8 vb hd)) (lM I (yC I (yC I (yC I (lY I I I (iA bH bZ I I (hx0 oM) oM sL) (SL.gq (gT I I I dC) (eB dx I hrs.rd hr I) dC (yC I (zd7 (gT I I I dC) (SO.callV I I (cI.mk (args:=[_,_]) (cap:=[]) call101 (kS E g _ _ _ x t hxr hu hxl))) dC ?_))))))))))))))));rintro _ _ _ ⟨rfl,rfl,rfl⟩;refine lY I I I (eQ I I) (yP I (lA I (aT I (rE ?_))));exact ST.ret2 (.inl I) results104 I I ⟨⟨_,by rw[hlb]⟩,I,I⟩
  ·have hd:decide ((i:Int)<(rs.length:Int))=false:=zf4 hin;refine xI (tX (tX (bX (tN (sW I (lM I (lM I (lU (SU.eq (lS I I) (zd8 vb hd)) (lM I (yA I (yA I (yA I (yA I (yA I (yA I (yA I (yA I (yF I (lA I (aT I (rE ?_)))))))))))))))))))));exact ST.ret2 (.inl I) results104 I I ⟨⟨_,by rw[hlb]⟩,I,I⟩
theorem bB (a b:Int):(a<b∧mU a b = -1)∨(a=b∧mU a b=0)∨(b<a∧mU a b=1):=by
 unfold mU;by_cases h:a<b
 ·exact .inl ⟨h,zf7 h⟩
 ·by_cases h2:a>b
  ·exact .inr (.inr ⟨h2,by rw[zf6 h,zf7 h2]⟩)
  ·exact .inr (.inl ⟨oM,by rw[zf6 h,zf6 h2]⟩)
theorem lQ:∀ a b:List Int,gx b a = - gx a b
 | [],[]=>rfl
 | [],_::_=>rfl
 | _::_,[]=>rfl
 | x::a,y::b=>by
  have ih:=lQ a b;simp only[gx]
  rcases bB x y with ⟨h,e⟩ | ⟨h,e⟩ | ⟨h,e⟩ <;> rcases bB y x with ⟨h',e'⟩ | ⟨h',e'⟩ | ⟨h',e'⟩ <;> simp[e,e'] <;> omega
theorem Bv:∀ a b:List Int,gx a b=0↔a=b
 | [],[]=>by simp[gx]
 | [],_::_=>by simp[gx]
 | _::_,[]=>by simp[gx]
 | x::a,y::b=>by
  have ih:=Bv a b;simp only[gx]
  rcases bB x y with ⟨h,e⟩ | ⟨h,e⟩ | ⟨h,e⟩
  ·simp[e]; omega
  ·subst h; simp[e,ih]
  ·simp[e]; omega
theorem rB:∀ a b c:List Int,gx a b<0→gx b c<0→gx a c<0
 | [],[],_,h,_=>by simp[gx] at h
 | [],_::_,[],_,h=>by simp[gx] at h
 | [],_::_,_::_,_,_=>by simp[gx]
 | _::_,[],_,h,_=>by simp[gx] at h
 | _::_,_::_,[],_,h=>by simp[gx] at h
 | x::a,y::b,z::c,h1,h2=>by
  have ih:=rB a b c;simp only[gx] at h1 h2 ⊢
  rcases bB x y with ⟨h,e⟩ | ⟨h,e⟩ | ⟨h,e⟩ <;> rcases bB y z with ⟨h',e'⟩ | ⟨h',e'⟩ | ⟨h',e'⟩ <;> rcases bB x z with ⟨h'',e''⟩ | ⟨h'',e''⟩ | ⟨h'',e''⟩ <;> simp[e,e',e''] at h1 h2 ⊢ <;> first | omega | exact ih h1 h2
theorem iS (a b:List Int):aj b a = - aj a b:=by
 have h1:=lQ a b;unfold aj
 rcases bB a.length b.length with ⟨h,e⟩ | ⟨h,e⟩ | ⟨h,e⟩ <;> rcases bB b.length a.length with ⟨h',e'⟩ | ⟨h',e'⟩ | ⟨h',e'⟩ <;> simp[e,e'] <;> omega
theorem pR (a b:List Int):aj a b=0↔a=b:=by
 have h1:=Bv a b;unfold aj
 rcases bB a.length b.length with ⟨h,e⟩ | ⟨h,e⟩ | ⟨h,e⟩
 ·simp[e]; intro h2; rw[h2] at h; omega
 ·simp[e,h1]
 ·simp[e]; intro h2; rw[h2] at h; omega
theorem ed (a b c:List Int)(h1:aj a b<0)(h2:aj b c<0):aj a c<0:=by
 have ih:=rB a b c;unfold aj at *
 rcases bB a.length b.length with ⟨h,e⟩ | ⟨h,e⟩ | ⟨h,e⟩ <;> rcases bB b.length c.length with ⟨h',e'⟩ | ⟨h',e'⟩ | ⟨h',e'⟩ <;> rcases bB a.length c.length with ⟨h'',e''⟩ | ⟨h'',e''⟩ | ⟨h'',e''⟩ <;> simp[e,e',e''] at h1 h2 ⊢ <;> first | omega | exact ih h1 h2
theorem cj (a:List Int):aj a a=0:=(pR a a).2 rfl
theorem dn (a b:List Int):aj a b<0∨a=b∨aj b a<0:=by
 have h1:=iS a b
 rcases Int.lt_trichotomy (aj a b) 0 with h | h | h
 ·exact .inl h
 ·exact .inr (.inl ((pR a b).1 h))
 ·exact .inr (.inr oM)
theorem gy (a b c:List Int)(h1:¬ aj a b<0)(h2:¬ aj b c<0):¬ aj a c<0:=by
 intro h3
 rcases dn a b with h | h | h
 ·exact h1 h
 ·subst h; exact h2 h3
 ·exact h2 (ed b a c h h3)
def sZ (l:List (List Int)):Prop:=l.Pairwise fun a b=>¬ aj b a<0
def FA (x:List Int):List (List Int)→List (List Int)
 | []=>[x]
 | y::r=>if aj y x<0 then y::FA x r else x::y::r
def ot:List (List Int)→List (List Int)
 | []=>[]
 | x::r=>FA x (ot r)
theorem oN (x:List Int):∀ l,(FA x l).Perm (x::l)
 | []=>.refl _
 | y::r=>by
  unfold FA;split
  ·exact ((oN x r).cons y).trans (.swap x y r)
  ·exact .refl _
theorem im:∀ l,(ot l).Perm l
 | []=>.refl _
 | x::r=>(oN x (ot r)).trans ((im r).cons x)
theorem x2 (x:List Int):∀ {l},sZ l→sZ (FA x l)
 | [],_=>List.pairwise_singleton _ _
 | y::r,h=>by
  obtain ⟨h1,h2⟩:=zj9.1 h;unfold FA;split
  ·rename_i hy;refine zj9.2 ⟨fun z hz=>?_,x2 x h2⟩
   rcases ze7.1 ((oN x r).subset hz) with rfl | hz
   ·intro h3; have:=ed y z y hy h3; rw[cj] at this; omega
   ·exact h1 z hz
  ·rename_i hy;refine zj9.2 ⟨fun z hz=>?_,h⟩
   rcases ze7.1 hz with rfl | hz
   ·exact hy
   ·exact gy z y x (h1 z hz) hy
theorem jw:∀ l,sZ (ot l)
 | []=>List.Pairwise.nil
 | x::r=>x2 x (jw r)
theorem pw:∀ {l m:List (List Int)},sZ l→sZ m→l.Perm m→l=m
 | [],m,_,_,h=>(List.nil_perm.1 h).symm
 | x::l,[],_,_,h=>by have:=h.length_eq; simp at this
 | x::l,y::m,hl,hm,h=>by
  obtain ⟨h1,h2⟩:=zj9.1 hl;obtain ⟨h3,h4⟩:=zj9.1 hm;have hxy:x=y:=by
   have hx:x∈y::m:=h.subset (by simp);have hy:y∈x::l:=h.symm.subset (by simp)
   rcases ze7.1 hx with e | hx
   ·exact e
   ·rcases ze7.1 hy with e | hy
    ·exact e.symm
    ·rcases dn x y with h5 | h5 | h5
     ·exact absurd h5 (h3 x hx)
     ·exact h5
     ·exact absurd h5 (h1 y hy)
  subst hxy;rw[pw h2 h4 (h.cons_inv)]
open Go Go.Sy Go.Pl Go.Proofs Go.Shelf Go.Sort
def Tryz.sortF_ren:Ren :=
 {
  f:=fun x =>
   match x with
   | 6=>100
   | 15=>138
   | 14=>139
   | 28=>184
   | 29=>185
   | 20=>186
   | 21=>187
   | 22=>188
   | 23=>189
   | 24=>190
   | 25=>191
   | 26=>192
   | 27=>193
   | 46=>221
   | 47=>217
   | 48=>218
   | 49=>222
   | 50=>223
   | 57=>235
   | n=>n,
  t:=fun x =>
   match x with
   | 22=>22
   | 24=>25
   | 25=>147
   | 3=>3
   | 39=>133
   | 0=>0
   | 53=>174
   | 55=>160
   | 4=>4
   | 46=>227
   | 45=>226
   | 50=>110
   | 5=>5
   | 9=>9
   | 66=>254
   | 70=>258
   | 76=>273
   | 77=>274
   | n=>n,
  g:=fun x =>
   have n:=x;
   n }
theorem Tryz.sortF:SlLaysF.n6 Tryz.prog Tryz.sortF_ren :=
  {
  mixed:=Eq.refl true,
  f6 :=
   Exists.intro "slices.SortFunc[[][]int,[]int]"
    ⟨zf9 (id (Eq.refl true)),
     zb6 func100
      (zd8 some
       kR)⟩,
  f14 :=
   Exists.intro "slices.pdqsortCmpFunc[[]int]"
    ⟨zf9 (id (Eq.refl true)),
     zb6 func139
      (zd8 some
       kR)⟩,
  f15:=zb6 func138 (zd8 some kR),
  f20 :=
   Exists.intro "slices.insertionSortCmpFunc[[]int]"
    ⟨zf9 (id (Eq.refl true)),
     zb6 func186
      (zd8 some
       kR)⟩,
  f21 :=
   Exists.intro "slices.heapSortCmpFunc[[]int]"
    ⟨zf9 (id (Eq.refl true)),
     zb6 func187
      (zd8 some
       kR)⟩,
  f22 :=
   Exists.intro "slices.breakPatternsCmpFunc[[]int]"
    ⟨zf9 (id (Eq.refl true)),
     zb6 func188
      (zd8 some
       kR)⟩,
  f23 :=
   Exists.intro "slices.choosePivotCmpFunc[[]int]"
    ⟨zf9 (id (Eq.refl true)),
     zb6 func189
      (zd8 some
       kR)⟩,
  f24 :=
   Exists.intro "slices.reverseRangeCmpFunc[[]int]"
    ⟨zf9 (id (Eq.refl true)),
     zb6 func190
      (zd8 some
       kR)⟩,
  f25 :=
   Exists.intro "slices.partialInsertionSortCmpFunc[[]int]"
    ⟨zf9 (id (Eq.refl true)),
     zb6 func191
      (zd8 some
       kR)⟩,
  f26 :=
   Exists.intro "slices.partitionEqualCmpFunc[[]int]"
    ⟨zf9 (id (Eq.refl true)),
     zb6 func192
      (zd8 some
       kR)⟩,
  f27 :=
   Exists.intro "slices.partitionCmpFunc[[]int]"
    ⟨zf9 (id (Eq.refl true)),
     zb6 func193
      (zd8 some
       kR)⟩,
  f28:=zb6 func184 (zd8 some kR),
  f29:=zb6 func185 (zd8 some kR),
  f46 :=
   Exists.intro "slices.siftDownCmpFunc[[]int]"
    ⟨zf9 (id (Eq.refl true)),
     zb6 func221
      (zd8 some
       kR)⟩,
  f47:=zb6 func217 (zd8 some kR),
  f48:=zb6 func218 (zd8 some kR),
  f49 :=
   Exists.intro "slices.medianAdjacentCmpFunc[[]int]"
    ⟨zf9 (id (Eq.refl true)),
     zb6 func222
      (zd8 some
       kR)⟩,
  f50 :=
   Exists.intro "slices.medianCmpFunc[[]int]"
    ⟨zf9 (id (Eq.refl true)),
     zb6 func223
      (zd8 some
       kR)⟩,
  f57 :=
   Exists.intro "slices.order2CmpFunc[[]int]"
    ⟨zf9 (id (Eq.refl true)),
     zb6 func235
      (zd8 some
       kR)⟩,
  t0:=underlying0,a0:=isAgg0,z0:=sizeOf0,v0:=zeroValue0,t3:=uT3,
  a3:=iT3,z3:=zT3,v3:=zl6,t4:=uT4,a4:=isAgg4,
  z4:=zT4,v4:=zeroValue4,t5:=uT5,a5:=isAgg5,z5:=sizeOf5,
  v5:=zeroValue5,t9:=uT9,a9:=isAgg9,z9:=sizeOf9,v9:=zeroValue9,
  t22:=bH,a22:=isAgg22,z22:=sV,v22:=zeroValue22,a24:=dx,
  z24:=bZ,t25:=underlying147,a25:=isAgg147,z25:=sizeOf147,
  v25:=zeroValue147,t39:=iU,a39:=isAgg133,z39:=sizeOf133,
  v39:=zeroValue133,t45:=underlying226,a45:=isAgg226,z45:=sizeOf226,
  v45:=zeroValue226,t46:=underlying227,a46:=isAgg227,z46:=sizeOf227,
  v46:=zeroValue227,t50:=underlying110,a50:=isAgg110,z50:=sizeOf110,
  v50:=zeroValue110,t53:=underlying174,a53:=isAgg174,z53:=sizeOf174,
  v53:=zeroValue174,t55:=ol,a55:=isAgg160,z55:=ee,
  v55:=zeroValue160,t66:=underlying254,a66:=isAgg254,z66:=sizeOf254,
  v66:=zeroValue254,t70:=underlying258,a70:=isAgg258,z70:=sizeOf258,
  v70:=zeroValue258,t76:=underlying273,a76:=isAgg273,z76:=sizeOf273,
  v76:=zeroValue273,t77:=underlying274,a77:=isAgg274,z77:=sizeOf274,
  v77:=zeroValue274 }
structure LV (g:PH) where
 sv:Sv
 l:List Int
 h:bJ g l sv
 len:l.length<1099511627776
def LV.val {g:PH}(x:LV g):Value:=.slice x.sv.p x.sv.n x.sv.c
def kQ (g:PH):Enc (LV g) 1:=⟨fun x=>[x.val],fun _=>rfl,fun _ u hu=>by simp at hu; subst hu; rfl,by decide⟩
instance (g:PH):Inhabited (LV g):=⟨⟨⟨none,0,0⟩,[],zb8 g 1,by decide⟩⟩
theorem Bn {g:PH}(l:List (LV g)):l.flatMap (kQ g).enc=l.map LV.val:=by
 induction l with
 | nil=>rfl
 | cons a t ih=>simp only[zh2,zg1,ih]; rfl
def Ap (W:World):PH:=fun b=>W.heap[b]?
theorem Ht (W:World):At W (Ap W) [] W:=⟨rfl,⟨rfl,Nat.le_refl _⟩,rfl,fun _ _ h=>h,by simp,by simp,List.Pairwise.nil⟩
theorem EP {W w':World}(h:At W (Ap W) [] w'):∃ q os',w'=grow (W.drewN q) os':=by
 refine⟨w'.drawn - W.drawn,w'.heap.extract W.heap.size,?_⟩;have hpre:∀ k,k<W.heap.size→w'.heap[k]?=W.heap[k]?:=fun k hk=>by
  rw[h.known k W.heap[k] (by simp[Ap,hk]),Array.getElem?_eq_getElem hk]
 have hsz:W.heap.size≤w'.heap.size:=by
  rcases Nat.eq_zero_or_pos W.heap.size with h0 | h0
  ·omega
  ·have:=hpre (W.heap.size - 1) oM;rw[Array.getElem?_eq_getElem (xs:=W.heap) oM] at this;have:=(Array.getElem?_eq_some_iff.1 this).1;omega
 have hheap:w'.heap=W.heap++w'.heap.extract W.heap.size:=by
  apply Array.ext_getElem?;intro k;rw[Array.getElem?_append];split
  ·exact hpre k (by assumption)
  ·rename_i hk;rw[Array.getElem?_extract];by_cases hk2:k<w'.heap.size
   ·rw[zf7 oM]; congr 1; omega
   ·rw[zf6 oM,Array.getElem?_eq_none oM]
 obtain ⟨hp,tp,dr,osx,ou⟩:=w';have h1:=h.os; have h2:=h.tape; have h3:=h.output;simp only at h1 h2 h3 hheap;simp only[grow,World.drewN];obtain ⟨h2a,h2b⟩:=h2;subst h1; subst h2a; subst h3;congr 1;omega
theorem GB {E:World}{g:PH}{s:Own}{l:List (LV g)}{w:World}{b off:Nat}(hw:At E g s w)(hb:g b=none):CmpLays1 Tryz.prog 101 #[] (LV.val (g:=g)) (fun x y=>aj x.l y.l) b off l.toArray.size w:=by
 intro m os dk hs x y;have hle:Le g (Ap (sortWorld LV.val w b off m dk os)):=fun k o hk=>by
  have h1:=hw.known k o hk;have hlt:=hw.lt hk;have hne:b≠k:=fun e=>by rw[e] at hb; rw[hb] at hk; cases hk
  show (grow (putRow LV.val (Sort.ahead w m) b off dk) os).heap[k]?=some o;rw[heap_grow_old _ _ (by simpa using hlt)];simp[putRow,mapBlock,Sort.ahead,Array.getElem?_modify,hne,h1]
 have h2:=kS (sortWorld LV.val w b off m dk os) (Ap _) [] x.val y.val x.l y.l (za3 x.h hle) (za3 y.h hle) x.len _ (Ht _);refine h2.mono ?_;rintro e w' ⟨v',g',s',rfl,hat,rfl,rfl,rfl⟩;exact⟨I,EP hat⟩
theorem wi (E:World)(g:PH)(s:Own)(v:Value)(l:List (LV g))(h0:0<l.length)(hl:l.length<1099511627776) :
  Ctr Tryz.prog E 100 #[v,.func (.func 101) #[] #[]] g (rowA (kQ g) 25 v l::s) (fun _ g' s'=>g=g'∧∃ l':List (LV g),l'.Perm l∧l'.map LV.l=ot (l.map LV.l)∧s'=rowA (kQ g) 25 v l'::s):=by
 intro w hw;obtain ⟨h1,h2⟩:=ge (i:=0) hw rfl
 rcases h2 with ⟨p,rfl,hn⟩ | ⟨b,cap,cur,rfl,hb,hle,hcm,hcs,ht⟩
 ·omega
 ·have hfr:=hw.fresh _ (by simp:rowA (kQ g) 25 (.slice (some ⟨b,0,none⟩) l.length (cap+1)) l∈_) b rfl;have hblt:=(Array.getElem?_eq_some_iff.1 hb).1;have ht':cur.toList.take l.length=l.map LV.val:=by rw[← Bn]; simpa using ht
  have hH:Holds LV.val w b 0 l.toArray:=by
   intro j hj;have hj':j<l.length:=by simpa using hj
   refine⟨?_,by simp[World.frozen?,hb]⟩;have h1:(cur.toList.take l.length)[j]?=(l.map LV.val)[j]?:=by rw[ht']
   rw[List.getElem?_take_of_lt hj'] at h1;simp only[World.cell?,hb,Nat.zero_add];simp only[Option.isSome_none,Bool.false_eq_true,if_false];rw[← Array.getElem?_toList,h1];simp[hj']
  have hswo:SWO (ltOf fun x y:LV g=>aj x.l y.l):=⟨fun x=>by simp[ltOf,cj],fun x y z h1 h2=>by simp[ltOf] at *; exact ed _ _ _ h1 h2,fun x y z h1 h2=>by
   simp only[ltOf,decide_eq_false_iff_not] at *; exact gy _ _ _ h1 h2⟩
  refine (Any.slices_SortFunc Tryz.sortF LV.val (fun _=>I) (fun x y:LV g=>aj x.l y.l) hswo 101 #[] b 0 (cap+1) l.toArray w call101 (GB hw hfr.1) hH hblt (by simp; omega)).mono ?_;rintro e w' ⟨rfl,d',n,os,hp,hsd,rfl⟩;obtain ⟨d'⟩:=d';have hdl:d'.length=l.length:=by have:=hp.1; simpa using this
  have hperm:d'.Perm l:=by
   have h5:=hp.2.2;simp only[List.size_toArray,List.extract_toArray] at h5;simpa [List.extract_eq_take_drop,hdl,tL (Nat.le_of_eq hdl)] using h5
  have hsrt:sZ (d'.map LV.l):=by
   rw[sZ,zk1,zc6];intro i j hi hj hij;have h5:=hsd i j (zf3 _) hij (by simp; omega);simp only[ltOf,decide_eq_false_iff_not] at h5;simpa [hi,hj] using h5
  have huni:d'.map LV.l=ot (l.map LV.l):=pw hsrt (jw _) ((hperm.map _).trans (im _).symm);refine⟨_,g,rowA (kQ g) 25 (.slice (some ⟨b,0,none⟩) l.length (cap+1)) d'::s,I,?_,I,d',hperm,huni,I⟩;have h5:(sortWorld LV.val w b 0 n d'.toArray os).heap[b]?=some (.cells (putCells LV.val 0 d'.toArray cur) 25 (0,0)):=by
   show (grow (putRow LV.val (Sort.ahead w n) b 0 d'.toArray) os).heap[b]?=_;rw[heap_grow_old _ _ (by simpa using hblt)];simp[putRow,mapBlock,Sort.ahead,Array.getElem?_modify,hb,onCells]
  have h6:=hw.turn (i:=0) (w':=sortWorld LV.val w b 0 n d'.toArray os) (e':=rowA (kQ g) 25 (.slice (some ⟨b,0,none⟩) l.length (cap+1)) d') rfl rfl ⟨rfl,Nat.le_add_right _ _⟩ rfl (by simp[sortWorld,grow,putRow,mapBlock,Sort.ahead]) (fun k hk hne=>by
    have hne':b≠k:=fun e=>hne (by rw[e]; rfl);show (grow (putRow LV.val (Sort.ahead w n) b 0 d'.toArray) os).heap[k]?=_;rw[heap_grow_old _ _ (by simpa using hk)];simp[putRow,mapBlock,Sort.ahead,Array.getElem?_modify,hne']) (by
    have:=dN (w:=sortWorld LV.val w b 0 n d'.toArray os) (T:=25) (k:=1) (n:=d'.length) (b:=b) (cap:=cap) (xs:=d'.flatMap (kQ g).enc) (by rw[(kQ g).length]) h5 oM hcm (by simp[putCells]; simpa using hcs) (by
     rw[Bn,Nat.mul_one];apply List.ext_getElem?;intro j;by_cases hj:j<d'.length
     ·rw[List.getElem?_take_of_lt hj,Array.getElem?_toList];simp[putCells,hj,show j<cur.size by omega]
     ·rw[List.getElem?_take_eq_none oM,List.getElem?_eq_none (by simp; omega)])
    rw[show rowA (kQ g) 25 (.slice (some ⟨b,0,none⟩) l.length (cap+1)) d'=row 25 1 (.slice (some ⟨b,0,none⟩) d'.length (cap+1)) d'.length (d'.flatMap (kQ g).enc) by simp only[rowA,hdl]];exact this) (fun b' hb'=>by
    simp only[rowA,row,nU,zg4] at hb';subst hb';exact⟨(Array.getElem?_eq_some_iff.1 h5).1,.inl I⟩)
  exact h6
end Go.Proofs.YtkbagdedfdfjhaaGreatDoor
