/- Aro Chk Bin Pro1 Pro Cpy Cmp Sub Cpt Con Ord SoA Srt Sim Cpo Fzb San1 San Ref1 Ref2 Ref3 Sec Ref4 -/
import Derived.Test.YtmmghffoakhheaaGreatDoorAt04
import Derived.Test.YtmmghffoakhheaaGreatDoorAt03
import Derived.Shelf.SlSortCmp.Whole1
import Derived.Shelf.SlIterI.Sorted
import Derived.Test.YtmmghffoakhheaaGreatDoorAt02
set_option linter.unusedSimpArgs false
set_option linter.unusedVariables false
namespace Go.Proofs.YtmmghffoakhheaaGreatDoor
open _root_.Go.Proofs.Tryz _root_.Go.Proofs.YtmmghffoakhheaaGreatDoor.Tryz
open Go Go.Sy Go.Pl Go.Proofs
set_option maxRecDepth 100000
def sidesOf (tl:List Cl)(x:Side):List Side:=((findT tl x.cell).getD zeroC).sides
def stepZ (x:Side)(zl:List (Int×Int))(r:Side):List (Int×Int):=addZ zl r.cell (x.sign * r.sign)
def stepL (i:Int)(ml:List (Int×List Int))(r:Side):List (Int×List Int):=addL ml r.cell i
def sumsC (tl:List Cl)(l:List Side):List (Int×Int):=l.foldl (fun zl x=>(sidesOf tl x).foldl (stepZ x) zl) []
def metC (tl:List Cl)(l:List Side):List (Int×List Int):=l.zipIdx.foldl (fun ml p=>(sidesOf tl p.1).foldl (stepL p.2) ml) []
def joinStep (jl:List (Int×List Int))(p:Int×List Int):List (Int×List Int):=match p.2 with
 | [a,b]=>addL (addL jl a b) b a
 | _=>jl
def joinC (ml:List (Int×List Int)):List (Int×List Int):=ml.foldl joinStep []
def seenC (jl:List (Int×List Int)):List Int:=dfs (adjJ jl) (jl.length+1) 0 []
def aroundC (tl:List Cl)(c:Cl):Int :=
 if (sumsC tl c.sides).any (fun p=>decide (p.2≠0)) then 24
 else if (metC tl c.sides).any (fun p=>decide ((p.2.length:Int)≠2)) then 25
 else if ((seenC (joinC (metC tl c.sides))).length:Int)≠c.sides.length then 25 else 0
def AOk (tl:List Cl)(c:Cl):Prop:=c.sides.length≤64∧(∀ x∈c.sides,x.sign=1∨x.sign = -1)∧∀ x∈c.sides,(sidesOf tl x).length≤64∧∀ r∈sidesOf tl x,r.sign=1∨r.sign = -1
theorem sumsC_succ {tl:List Cl}{l:List Side}{x:Side}:sumsC tl (l++[x])=(sidesOf tl x).foldl (stepZ x) (sumsC tl l):=by
 simp[sumsC,List.foldl_append]
theorem metC_succ {tl:List Cl}{l:List Side}{x:Side}:metC tl (l++[x])=(sidesOf tl x).foldl (stepL l.length) (metC tl l):=by
 simp[metC,List.zipIdx_append,List.foldl_append]
theorem sign_mul {a b:Int}(ha:a=1∨a = -1)(hb:b=1∨b = -1):a * b=1∨a * b = -1:=by
 rcases ha with rfl | rfl <;> rcases hb with rfl | rfl <;> decide
theorem addL_keys (ml:List (Int×List Int))(k x:Int):(addL ml k x).map Prod.fst=if ml.any (fun p=>decide (p.1=k)) then ml.map Prod.fst else ml.map Prod.fst++[k]:=by
 induction ml with
 | nil=>rfl
 | cons p r ih =>
  obtain ⟨a,l⟩:=p;simp only[addL];by_cases h:k=a
  ·subst h; simp
  ·have h':¬ a=k:=fun e=>h e.symm;rw[if_neg h];simp only[List.map_cons,ih,List.any_cons,h',decide_false,Bool.false_or];split <;> simp
theorem addL_nodup {ml:List (Int×List Int)}(h:(ml.map Prod.fst).Nodup)(k x:Int):((addL ml k x).map Prod.fst).Nodup:=by
 rw[addL_keys];split
 ·exact h
 ·rename_i hk;rw[List.nodup_append];refine⟨h,by simp,fun a ha b hb e=>hk ?_⟩;simp at hb;subst hb;obtain ⟨p,hp,hpe⟩:=List.mem_map.1 ha;rw[List.any_eq_true];exact⟨p,hp,by simp[hpe,e]⟩
theorem metC_nodup (tl:List Cl)(l:List Side):((metC tl l).map Prod.fst).Nodup:=by
 unfold metC;have h2:∀ (q:List (Side×Nat)) (ml:List (Int×List Int)),(ml.map Prod.fst).Nodup→((q.foldl (fun ml p=>(sidesOf tl p.1).foldl (stepL p.2) ml) ml).map Prod.fst).Nodup:=by
  intro q;induction q with
  | nil=>intro ml h; exact h
  | cons p t ih =>
   intro ml h;refine ih _ ?_;have h1:∀ (q:List Side) (ml:List (Int×List Int)),(ml.map Prod.fst).Nodup→((q.foldl (stepL p.2) ml).map Prod.fst).Nodup:=by
    intro q;induction q with
    | nil=>intro ml h; exact h
    | cons r t ih=>intro ml h; exact ih _ (addL_nodup h _ _)
   exact h1 _ _ h
 exact h2 _ _ (by simp)
theorem addL_length (ml:List (Int×List Int))(k x:Int):(addL ml k x).length≤ml.length+1:=by
 induction ml with
 | nil=>simp[addL]
 | cons p r ih =>
  obtain ⟨a,l⟩:=p;simp only[addL];split <;> simp <;> omega
theorem metC_length {tl:List Cl}{l:List Side}(h:∀ x∈l,(sidesOf tl x).length≤64):(metC tl l).length≤64 * l.length:=by
 have h2:∀ (q:List (Side×Nat)) (ml:List (Int×List Int)),(∀ p∈q,(sidesOf tl p.1).length≤64)→(q.foldl (fun ml p=>(sidesOf tl p.1).foldl (stepL p.2) ml) ml).length≤ml.length+64 * q.length:=by
  intro q;induction q with
  | nil=>intro ml _; simp
  | cons p t ih =>
   intro ml hq;have h1:∀ (q:List Side) (ml:List (Int×List Int)),(q.foldl (stepL p.2) ml).length≤ml.length+q.length:=by
    intro q;induction q with
    | nil=>intro ml; simp
    | cons r t ih =>
     intro ml;have h3:=ih (stepL p.2 ml r);have h4:=addL_length ml r.cell p.2;simp only[List.foldl_cons,List.length_cons];unfold stepL at h3 ⊢;omega
   have h5:=ih ((sidesOf tl p.1).foldl (stepL p.2) ml) (fun p hp=>hq p (by simp[hp]));have h6:=h1 (sidesOf tl p.1) ml;have h7:=hq p (by simp);simp only[List.foldl_cons,List.length_cons];omega
 have:=h2 l.zipIdx [] (fun p hp=>h p.1 (by
  obtain ⟨a,i⟩:=p;exact (List.mem_zipIdx hp).2.2 ▸ gM _))
 simpa [metC] using this
theorem perm_of_key {α:Type}(f:α→Int){vt ms:List α}(hs:∀ t∈vt,t∈ms)(hp:(vt.map f).Perm (ms.map f))(hn:(ms.map f).Nodup):vt.Perm ms:=by
 have hinj:∀ {l:List α},(l.map f).Nodup→∀ a∈l,∀ b∈l,f a=f b→a=b:=by
  intro l;induction l with
  | nil=>intro _ a ha; simp at ha
  | cons c t ih =>
   intro h a ha b hb e;simp only[List.map_cons,List.nodup_cons] at h
   rcases List.mem_cons.1 ha with rfl | ha' <;> rcases List.mem_cons.1 hb with rfl | hb'
   ·rfl
   ·exact absurd (List.mem_map.2 ⟨b,hb',e.symm⟩) h.1
   ·exact absurd (List.mem_map.2 ⟨a,ha',e⟩) h.1
   ·exact ih h.2 a ha' b hb' e
 refine (List.perm_ext_iff_of_nodup (List.Pairwise.of_map f (fun a b hab e=>hab (by rw[e])) (hp.symm.nodup hn)) (List.Pairwise.of_map f (fun a b hab e=>hab (by rw[e])) hn)).2 fun c=>⟨hs c,fun hc=>?_⟩;obtain ⟨c',h1,h2⟩:=List.mem_map.1 (hp.symm.subset (List.mem_map.2 ⟨c,hc,rfl⟩));rw[← hinj hn c' (hs c' h1) c hc h2];exact h1
theorem mem_addL (jl:List (Int×List Int))(a b x y:Int):y∈getL (addL jl a b) x↔y∈getL jl x∨(x=a∧y=b):=by
 rw[getL_addL];split
 ·rename_i h; simp[h]
 ·rename_i h; simp[h]
theorem mem_join (ml:List (Int×List Int))(x y:Int):y∈getL (joinC ml) x↔∃ p∈ml,p.2=[x,y]∨p.2=[y,x]:=by
 have key:∀ (q:List (Int×List Int)) (jl:List (Int×List Int)),y∈getL (q.foldl joinStep jl) x↔y∈getL jl x∨∃ p∈q,p.2=[x,y]∨p.2=[y,x]:=by
  intro q;induction q with
  | nil=>intro jl; simp
  | cons p t ih =>
   intro jl;simp only[List.foldl_cons,ih];have hp:y∈getL (joinStep jl p) x↔y∈getL jl x∨(p.2=[x,y]∨p.2=[y,x]):=by
    obtain ⟨k,l⟩:=p;unfold joinStep;dsimp only
    match l with
    | []=>simp
    | [_]=>simp
    | [a,b] =>
     simp only[mem_addL,List.cons.injEq,and_true];constructor
     ·rintro ((h | ⟨h1,h2⟩) | ⟨h1,h2⟩)
      ·exact .inl h
      ·exact .inr (.inl ⟨h1.symm,h2.symm⟩)
      ·exact .inr (.inr ⟨h2.symm,h1.symm⟩)
     ·rintro (h | ⟨h1,h2⟩ | ⟨h1,h2⟩)
      ·exact .inl (.inl h)
      ·exact .inl (.inr ⟨h1.symm,h2.symm⟩)
      ·exact .inr ⟨h2.symm,h1.symm⟩
    | _::_::_::q=>simp
   rw[hp];constructor
   ·rintro ((h | h) | ⟨q,h1,h2⟩)
    ·exact .inl h
    ·exact .inr ⟨p,by simp,h⟩
    ·exact .inr ⟨q,by simp[h1],h2⟩
   ·rintro (h | ⟨q,h1,h2⟩)
    ·exact .inl (.inl h)
    ·rcases List.mem_cons.1 h1 with rfl | h1
     ·exact .inl (.inr h2)
     ·exact .inr ⟨q,h1,h2⟩
 unfold joinC;rw[key];simp[getL]
theorem seen_perm {a b:List (Int×List Int)}(h:a.Perm b):(seenC (joinC a)).length=(seenC (joinC b)).length:=by
 have hr:∀ (a b:List (Int×List Int)),a.Perm b→∀ x,Rch (adjJ (joinC a)) 0 x→Rch (adjJ (joinC b)) 0 x:=by
  intro a b h x hx;refine hx.mono (fun u l hl y hy=>⟨_,I,?_⟩) (fun _ _=>by simp[adjJ]);simp only[adjJ,Option.some.injEq] at hl;subst hl;rw[mem_join] at hy ⊢;obtain ⟨p,hp,h2⟩:=hy;exact⟨p,h.subset hp,h2⟩
 have hc:∀ jl:List (Int×List Int),cntK jl []<jl.length+1:=fun jl=>Nat.lt_succ_of_le (List.length_filter_le _ _);have hmem:∀ (q:List (Int×List Int)) (x:Int),x∈seenC (joinC q)↔Rch (adjJ (joinC q)) 0 x:=fun q x=>mem_dfs (cnt:=cntK (joinC q)) (fun v v' h=>cntK_mono h) (cntK_strict _) (hc _) (by simp[adjJ]) x;refine List.Perm.length_eq ((List.perm_ext_iff_of_nodup (dfs_nodup _ _ _ _ (by simp)) (dfs_nodup _ _ _ _ (by simp))).2 fun x=>?_);exact (hmem a x).trans (Iff.trans ⟨hr a b h x,hr b a h.symm x⟩ (hmem b x).symm)
theorem around_spec (E:World)(g:PH)(s:Own)(v:Value)(tl:List Cl)(c:Cl)(r:Rc)(hv:Tab g v tl)(hc:CellR g c r)(hok:AOk tl c) :
  Ctr Tryz.prog E 52 #[v,rcv r] g s (fun r g' s'=>r=vi (aroundC tl c)∧g=g'∧s=s'):=by
 obtain ⟨b,mt,iv,rs,rfl,hb,hm,hI,hall⟩:=hv;obtain ⟨ri,rd,rp,rn,rcap⟩:=r;have hcs:SlA encSide g (.slice rp rn rcap) c.sides:=hc.2.2;have hrn:rn=c.sides.length:=Sl.slen hcs;have hrd:rd=c.dim:=hc.2.1;subst hrn hrd;obtain ⟨hn64,hsg,hin⟩:=hok;have hx0:=fun h=>hcs.based h;refine Ctr.of (args:=[pp b 0,rcv ⟨ri,c.dim,rp,c.sides.length,rcap⟩]) func52 I ntmps52 (bE I) ?_;refine rZ (bW (bO I) fun b3=>?_);refine aT I (rZ (lW (SO.mkMap) ?_));rintro _ _ _ ⟨mz,rfl,rfl,rfl⟩;refine lW (SO.mkMap) ?_;rintro _ _ _ ⟨mm,rfl,rfl,rfl⟩;refine lA I (aT I ?_);refine SC.cut (ι:=List (Int×Int)×Ms) (fun _=>[(3,pp b3 0),(5,.map (some mz)),(6,.map (some mm))]) (fun _=>g) (fun q=>mp mm (prsM q.2)::mp mz (prsZ q.1)::pt b3 (.cells #[vi ri,vi c.dim,.slice rp c.sides.length rcap] 54 (0,0))::(rowsM q.2++s))
  (fun q=>q.1=sumsC tl c.sides∧conM q.2=metC tl c.sides∧∀ t∈q.2,t.2.2.length≤4096) ?_ ?_
 ·refine rZ (lU (fA uT54 I zT37 I) (lK (qL iT37 I (cO 2 I I)) (lU (eN uT37 I) (lM I (tZ (bK ?_))))));refine oP (ι:=Nat×List (Int×Int)×Ms) (fun q=>[(0,pp b 0),(3,pp b3 0),(5,.map (some mz)),(6,.map (some mm)),(21,.slice rp c.sides.length rcap),(22,vi c.sides.length),(23,vi q.1)]) (fun _=>g)
   (fun q=>mp mm (prsM q.2.2)::mp mz (prsZ q.2.1)::pt b3 (.cells #[vi ri,vi c.dim,.slice rp c.sides.length rcap] 54 (0,0))::(rowsM q.2.2++s))
   (fun q=>q.1≤c.sides.length∧q.2.1=sumsC tl (c.sides.take q.1)∧conM q.2.2=metC tl (c.sides.take q.1)∧(∀ p∈q.2.1,-((64 * q.1:Nat):Int)≤p.2∧p.2≤((64 * q.1:Nat):Int))∧∀ t∈q.2.2,t.2.2.length≤64 * q.1) (fun q=>c.sides.length - q.1)
   (0,[],[]) sB rfl rfl ⟨Nat.zero_le _,by simp[sumsC],by simp[metC,conM],by simp,by simp⟩ ?_
  rintro ⟨k,zl0,ms0⟩ ⟨hk,hz0,hm0,hzb0,hmb0⟩;dsimp only at hk hz0 hm0 hzb0 hmb0 ⊢;refine rZ (yL I (tZ (sQ ?_)));refine iP I (fun hlt=>?_) (fun hlt=>?_)
  ·have hkl:k<c.sides.length:=oM;have hb1:=hx0 oM;have hjx:c.sides[((k:Nat):Int).toNat]?=some c.sides[k]:=gE hkl;have htk:c.sides.take (k+1)=c.sides.take k++[c.sides[k]]:=tS hkl;have hmy:c.sides[k]∈c.sides:=gM hkl;have htkl:(c.sides.take k).length=k:=by simp; omega
   generalize c.sides[k]=y at *;obtain ⟨x,hx1,hx2,hx3⟩:=all2_look hall zeroCR y.cell;obtain ⟨xi,xd,xp,xn,xc⟩:=x;have hxs:SlA encSide g (.slice xp xn xc) (sidesOf tl y):=hx3.2.2;have hxn:xn=(sidesOf tl y).length:=Sl.slen hxs;subst hxn;have hysg:=hsg y hmy;obtain ⟨hyl,hyr⟩:=hin y hmy;generalize hsy:sidesOf tl y=sy at hxs hyl hyr;refine kP (tN (sQ (bK (sW I (lU (iA uT37 zT56 I I hb1 oM sL) (lK (eA iT56 zT56 I hcs.rd hjx) (bW (aL zeroValue56) fun b8=>?_)))))));refine lA I (oZ (sK 0 zT56 I I I I I sB) ?_);refine tZ (sQ ?_);refine dW [] [(0,2),(1,2),(2,2),(3,1),(4,2),(5,1),(6,1),(7,2),(8,2),(9,2)] Tryz.mixed kR ?_;refine yM I (pU I (nC I) (pU I (fA uT127 I zT125 I) (pK I (qL iT125 I (cK hb I)) (pU I (fA uT56 I zT3 I) (pK I (qL iT3 I (cO 0 I I)) (pK I (SQ.eq (v':=rcv ⟨xi,xd,xp,sy.length,xc⟩) (SQ.lookup mty125 I I (MapAt.known hm)) (by rw[hx1,hsy])) ?_))))));refine pU I (SU.field uT54 I iT37 I I) (pU I (eN uT37 I) (yM I (pN (tN (bK ?_)))));refine oP (ι:=Nat×List (Int×Int)×Ms) (fun q=>[(0,pp b 0),(3,pp b3 0),(5,.map (some mz)),(6,.map (some mm)),(7,vi k),(8,pp b8 0),(21,.slice rp c.sides.length rcap),(22,vi c.sides.length),(23,vi k),(35,.slice xp sy.length xc),(36,vi sy.length),(37,vi q.1)]) (fun _=>g)
    (fun q=>pt b8 (.cells #[vi y.cell,vi y.sign] 56 (0,0))::mp mm (prsM q.2.2)::mp mz (prsZ q.2.1)::pt b3 (.cells #[vi ri,vi c.dim,.slice rp c.sides.length rcap] 54 (0,0))::(rowsM q.2.2++s))
    (fun q=>q.1≤sy.length∧q.2.1=(sy.take q.1).foldl (stepZ y) zl0∧conM q.2.2=(sy.take q.1).foldl (stepL k) (metC tl (c.sides.take k))∧(∀ p∈q.2.1,-((64 * k+q.1:Nat):Int)≤p.2∧p.2≤((64 * k+q.1:Nat):Int))∧∀ t∈q.2.2,t.2.2.length≤64 * k+q.1) (fun q=>sy.length - q.1)
    (0,zl0,ms0) sB rfl rfl ⟨Nat.zero_le _,by simp,by simp[hm0],by simpa using hzb0,by simpa using hmb0⟩ ?_
   rintro ⟨j,zl,ms⟩ ⟨hj,hz,hmm,hzb,hmb⟩;dsimp only at hj hz hmm hzb hmb ⊢;refine rZ (yL I (tZ (sQ ?_)));refine iP I (fun hlt2=>?_) (fun hlt2=>?_)
   ·have hjl:j<sy.length:=oM;have hb2:=hxs.based oM;have hjx2:sy[((j:Nat):Int).toNat]?=some sy[j]:=gE hjl;have htj:sy.take (j+1)=sy.take j++[sy[j]]:=tS hjl;have hrsg:=hyr _ (gM hjl);generalize sy[j]=z at *;obtain ⟨ms',j0,u,lu,hp1,hp2,hp3,hp4,hp6,hp5⟩:=prep ms z.cell;have hmb':=hp6 _ hmb;have hlu:=hmb' _ (List.mem_of_getElem? hp1);dsimp only at hlu;have hgb:=getZ_bound oM hzb z.cell;have hpr:=sign_mul hysg hrsg;refine SC.to (fun w hw=>hp5 E g [pt b8 (.cells #[vi y.cell,vi y.sign] 56 (0,0)),mp mm (prsM ms),mp mz (prsZ zl),pt b3 (.cells #[vi ri,vi c.dim,.slice rp c.sides.length rcap] 54 (0,0))] s w hw) ?_;refine kP (tN (sQ (bK (rZ (lU (iA uT37 zT56 I I hb2 oM sL) (lK (eA iT56 zT56 I hxs.rd hjx2) (bW (aL zeroValue56) fun b10=>?_)))))));refine oZ (sK 0 zT56 I I I I I sB) ?_;refine tZ (sW I (lU (fA uT56 I zT3 I) (lK (qL iT3 I (cO 0 I I)) (lK (SQ.eq (v':=vi (getZ zl z.cell)) (SQ.lookup mty70 I I (MapAt.own 3 I)) (getZ_map zl _)) (lU (fA uT56 I zT3 I) (lK (qL iT3 I (cO 1 I I)) (lU (fA uT56 I zT3 I) (lK (qL iT3 I (cO 0 I I)) (lU (SU.mul (m:=y.sign) (n:=z.sign) I I oM) (lU (aD (m:=getZ zl z.cell) (n:=y.sign * z.sign) I I oM) (lO (SO.mapUpdate 3 mty70 I I I I) ?_)))))))))));rintro _ _ _ ⟨rfl,rfl⟩;rw[addZ_map];refine tZ ?_;refine SC.drawT 5 [10] [(0,2),(1,2),(2,1),(3,2),(4,2),(5,1),(6,1),(7,2),(8,0),(9,0),(10,0)] Tryz.mixed kR ?_;refine yM rfl (pU rfl (fA uT56 rfl zT3 rfl) (pK rfl (qL iT3 rfl (cO 0 rfl rfl)) (yM rfl (pU rfl (fA uT56 rfl zT3 rfl) (pK rfl (qL iT3 rfl (cO 0 rfl rfl)) (pK rfl (SQ.eq (SQ.lookup mty69 rfl rfl (MapAt.own 2 rfl)) hp2) (yM rfl (SP.o rfl (bS sty22 rfl rfl rfl (szs_mk sB) dC) dC (.inr (by rintro _ _ _ ⟨b59,rfl,rfl,rfl⟩; exact⟨by exact Le.refl _,(by exact .cons _ (List.take_sublist _ _))⟩)) ?_))))))));rintro _ _ _ ⟨b59,rfl,rfl,rfl⟩;refine SP.o rfl (SO.app1 (j0+5) ((lu++[(k:Int)]).flatMap encInt.enc) (lu++[(k:Int)]).length sty22 rfl rfl rfl (rows_get hp1 s) rfl ⟨rfl,trivial⟩ (by simp[encInt]; rfl) (by simp) lN lN) dC (.inr (by rintro u' _ _ ⟨rfl,rfl⟩; exact⟨by exact Le.refl _,(by exact take_set_sub _ _ _ _)⟩)) ?_;rintro u' _ _ ⟨rfl,rfl⟩;refine SP.on I (SO.mapUpdate 2 mty69 I I I I) (.inl dC) ?_;rintro _ _ _ ⟨rfl,rfl⟩;refine pN (bN (tN (rG (yD I (lM I (nL ?_))))));refine dR (s':=pt b8 (.cells #[vi y.cell,vi y.sign] 56 (0,0))::mp mm (prsM (ms'.set j0 (z.cell,u',lu++[(k:Int)])))::mp mz (prsZ (addZ zl z.cell (y.sign * z.sign)))::pt b3 (.cells #[vi ri,vi c.dim,.slice rp c.sides.length rcap] 54 (0,0))::(rowsM (ms'.set j0 (z.cell,u',lu++[(k:Int)]))++s)) (by
     rw[← hp3 u' k,← rows_set (v':=u') (l':=lu++[(k:Int)]) hp1 s];exact .cons _ (.refl _)) ?_
    exact ST.again (j+1,addZ zl z.cell (y.sign * z.sign),ms'.set j0 (z.cell,u',lu++[(k:Int)])) sB rfl rfl ⟨lN,by rw[htj,List.foldl_append,← hz]; rfl,by rw[htj,List.foldl_append,← hmm,hp4]; rfl,by
      have:=addZ_bound oM hzb z.cell (x:=y.sign * z.sign) oM;intro p hp;have:=this p hp;dsimp only at *;omega,fun t ht=>by
      dsimp only at *
      rcases List.mem_or_eq_of_mem_set ht with h | h
      ·have:=hmb' t h; omega
      ·subst h; simp; omega⟩ lN
   ·refine xI (tX (tX (bX (bN (tN (rG (yD I (lM I (nL ?_)))))))));have hjj:sy.take j=sy:=tL oM;rw[hjj] at hz hmm;refine dR (s':=mp mm (prsM ms)::mp mz (prsZ zl)::pt b3 (.cells #[vi ri,vi c.dim,.slice rp c.sides.length rcap] 54 (0,0))::(rowsM ms++s)) (.cons _ (.refl _)) ?_;exact ST.again (k+1,zl,ms) sB I I ⟨lN,by rw[htk,sumsC_succ,hsy,← hz0]; exact hz,by rw[htk,metC_succ,hsy,htkl]; exact hmm,by
      intro p hp;have:=hzb p hp;dsimp only at *;omega,fun t ht=>by have:=hmb t ht; dsimp only at *; omega⟩ lN
  ·refine xI (tX (tX (bX ?_)));have hkk:c.sides.take k=c.sides:=tL oM;rw[hkk] at hz0 hm0;exact ST.mid (zl0,ms0) sB I I ⟨hz0,hm0,fun t ht=>by have:=hmb0 t ht; omega⟩
 ·rintro ⟨zl,ms⟩ ⟨hz,hmc,hmlen⟩;dsimp only at hz hmc hmlen ⊢;refine cP (List.Perm.swap _ _ _) (SC.freezeMap fun g1 hl1 hmz=>?_);refine SC.freezeMap fun g2 hl2 hmm=>?_;refine cP List.perm_middle.symm (SC.freezeRows fun g3 hl3 hrows=>?_);obtain ⟨es1,clk1,hes1,hmi1⟩:=hmz.mono (hl2.trans hl3);obtain ⟨es2,clk2,hes2,hmi2⟩:=hmm.mono hl3;have hle3:=hl1.trans (hl2.trans hl3);have hmsl:ms.length≤4096:=by
   have h1:=metC_length (tl:=tl) (l:=c.sides) (fun x hx=>(hin x hx).1);rw[← hmc] at h1;have h2:(conM ms).length=ms.length:=by simp[conM]
   omega
  refine sQ (sW I (lW (SO.range underlying70 I hes1) ?_));rintro _ _ _ ⟨it,rfl,rfl,rfl⟩;refine tZ (bK ?_);refine oP (ι:=List MapEntry×List (Int×Value)) (fun _=>[(3,pp b3 0),(6,.map (some mm)),(64,pp it 0)]) (fun _=>g3)
   (fun q=>iter it mz es1 clk1 q.1::pt b3 (.cells #[vi ri,vi c.dim,.slice rp c.sides.length rcap] 54 (0,0))::s)
   (fun q=>RVis (prsZ zl) es1 q.1 q.2∧∀ p∈q.2,p.2=vi 0) (fun q=>zl.length - q.2.length) ([],[]) sB rfl rfl ⟨RVis.nil _ _,by simp⟩ ?_
  rintro ⟨vis,vl⟩ ⟨hrv,hvz⟩;dsimp only at hrv hvz ⊢;refine rZ (lW (SO.nextP 0 I I hes1 hmi1 hrv) ?_);rintro _ _ _ ⟨rfl,hcase⟩
  rcases hcase with ⟨rfl,rfl,hperm⟩ | ⟨e,pr,he,hq1,hk1,hv1,hrv2,rfl,rfl⟩
  ·have hz0:(sumsC tl c.sides).any (fun p=>decide (p.2≠0))=false:=by
    rw[List.any_eq_false];intro p hp;rw[← hz] at hp;have:=hvz (p.1,vi p.2) (hperm.symm.subset (List.mem_map.2 ⟨p,hp,rfl⟩));simpa using this
   refine yX I (tZ (sQ (cF I (xI (tX (tX (bX (tN (sQ (SC.drop (s':=pt b3 (.cells #[vi ri,vi c.dim,.slice rp c.sides.length rcap] 54 (0,0))::s) (.cons _ (.refl _)) (rG (lW (SO.mkMap) ?_))))))))))));rintro _ _ _ ⟨mj,rfl,rfl,rfl⟩;refine bW (aL zeroValue69) fun b13=>?_;refine oZ (sK 0 sizeOf69 I I I I I sB) ?_;refine tZ (sQ (sW I (lW (SO.range underlying69 I hes2) ?_)));rintro _ _ _ ⟨it2,rfl,rfl,rfl⟩;refine tZ (bK ?_);refine oP (ι:=List MapEntry×List (Int×Value)×Ms×Ms) (fun _=>[(3,pp b3 0),(13,pp b13 0),(73,pp it2 0)]) (fun _=>g3)
    (fun q=>iter it2 mm es2 clk2 q.1::pt b13 (.cells #[.map (some mj)] 69 (0,0))::mp mj (prsM q.2.2.2)::pt b3 (.cells #[vi ri,vi c.dim,.slice rp c.sides.length rcap] 54 (0,0))::(rowsM q.2.2.2++s))
    (fun q=>RVis (prsM ms) es2 q.1 q.2.1∧q.2.1=prsM q.2.2.1∧(∀ t∈q.2.2.1,t∈ms∧t.2.2.length=2)∧conM q.2.2.2=joinC (conM q.2.2.1)∧∀ t∈q.2.2.2,t.2.2.length≤2 * q.2.2.1.length) (fun q=>ms.length - q.2.1.length) ([],[],[],[]) sB rfl rfl ⟨RVis.nil _ _,rfl,by simp,rfl,by simp⟩ ?_
   rintro ⟨vis2,vl2,vt,js⟩ ⟨hrv3,hvl2,hvt,hjs,hjb⟩;dsimp only at hrv3 hvl2 hvt hjs hjb ⊢;have hvtl:vt.length≤ms.length:=by have:=hrv3.len hmi2; rw[hvl2] at this; simpa [prsM] using this
   refine rZ (lW (SO.nextP 0 I I hes2 hmi2 hrv3) ?_);rintro _ _ _ ⟨rfl,hcase2⟩
   rcases hcase2 with ⟨rfl,rfl,hperm2⟩ | ⟨e2,pr2,he2,hq2,hk2,hv2,hrv4,rfl,rfl⟩
   ·have hpm:(conM vt).Perm (metC tl c.sides):=by
     rw[← hmc];have hn:(ms.map fun t=>t.1).Nodup:=by
      have:=metC_nodup tl c.sides;rw[← hmc] at this;simpa [conM,List.map_map,Function.comp_def] using this
     have h1:=hperm2.map Prod.fst;rw[hvl2] at h1;simp only[prsM,List.map_map,Function.comp_def] at h1;exact (perm_of_key (fun t=>t.1) (fun t ht=>(hvt t ht).1) h1 hn).map _
    have hreg:(metC tl c.sides).any (fun p=>decide ((p.2.length:Int)≠2))=false:=by
     rw[List.any_eq_false];intro p hp;obtain ⟨t,ht,rfl⟩:=List.mem_map.1 (hpm.symm.subset hp);have:=(hvt t ht).2;simp[this]
    have hjlen:∀ t∈js,t.2.2.length<1099511627776:=fun t ht=>by
     have h1:=hjb t ht;omega
    refine yX I (tZ (sQ (cF I (xI (tX (tX (bX (tN (sQ (SC.drop (.cons _ (.refl _)) (SC.freeze fun g4 hl4 hb13=>?_)))))))))));refine SC.freezeMap fun g5 hl5 hmj=>?_;refine cP List.perm_middle.symm (SC.freezeRows fun g6 hl6 hjrows=>?_);refine rG (lW (SO.mkMap) ?_);rintro _ _ _ ⟨sm,rfl,rfl,rfl⟩;refine bW (aL zeroValue71) fun b16=>?_;refine oZ (sK 0 sizeOf71 I I I I I ⟨I,trivial⟩) (SL.freeze fun g7 hl7 hb16=>?_);refine tZ (rZ (bW (aL zeroValue131) fun b17=>?_));refine tZ (rZ (lU (SU.mkFunc I) (oZ (sK 0 sizeOf131 I I I I I ⟨I,trivial⟩) (SL.freeze fun g8 hl8 hb17=>?_))));refine tZ (rZ (lK (qL isAgg131 I (cK hb17 I)) (lW (SO.callV I I (CallV.mk (cap:=[pp b16 0,pp b13 0,pp b17 0]) call86 (visit_spec E g8 b16 b13 b17 sm mj js (hmj.mono (hl6.trans (hl7.trans hl8))) (fun t ht=>(hjrows t ht).mono (hl7.trans hl8)) hjlen (hl8 _ _ hb16) ((hl5.trans (hl6.trans (hl7.trans hl8))) _ _ hb13) hb17 ((conM js).length+1) 0 [] _ 0 (Nat.lt_succ_of_le (List.length_filter_le _ _)) I))) ?_)));rintro _ _ _ ⟨rfl,rfl⟩;refine tZ (sQ (rZ (lK (qL isAgg71 I (cK (hl8 _ _ hb16) I)) (lK (SQ.lenMap underlying71 I (MapAt.own 0 I)) (lU (fA uT54 I zT37 I) (lK (qL iT37 I (cO 1 I I)) (lU (eN uT37 I) (lU (nQ I I) (tZ ?_)))))))));have hseen:(setP (dfs (adjJ (conM js)) ((conM js).length+1) 0 [])).length=(seenC (joinC (metC tl c.sides))).length:=by
     rw[← seen_perm hpm,← hjs];simp[setP,seenC]
    rw[hseen];have hlast:=hle3.trans (hl4.trans (hl5.trans (hl6.trans (hl7.trans hl8))));refine iP I (fun hne=>?_) (fun hne=>?_)
    ·refine rZ (aT I (rE (tR ?_)));refine dR (s':=s) (.cons _ (.cons _ (.refl _))) (ST.less hlast ?_);exact ST.ret1 (.inl I) results52 I ⟨by unfold aroundC; rw[if_neg (by rw[hz0]; exact Bool.false_ne_true),if_neg (by rw[hreg]; exact Bool.false_ne_true),if_pos hne],I,I⟩
    ·refine kP (tN (rZ (aT I (rE ?_))));refine dR (s':=s) (.cons _ (.cons _ (.refl _))) (ST.less hlast ?_);exact ST.ret1 (.inl I) results52 I ⟨by unfold aroundC; rw[if_neg (by rw[hz0]; exact Bool.false_ne_true),if_neg (by rw[hreg]; exact Bool.false_ne_true),if_neg hne],I,I⟩
   ·obtain ⟨⟨tk,tv,tl2⟩,ht,rfl⟩:=List.mem_map.1 hq2;have hti:Ints g3 tv tl2:=hrows _ ht;have htl:tl2.length≤4096:=hmlen _ ht;obtain ⟨tp,tc,rfl⟩:=SlA.form hti;refine yX I (tZ (sQ (SC.condT I (kP (tN (bK (rZ (lK (SQ.entryP 0 I I hes2 hmi2 he2 hk2 hv2) (yX I (aT I (sQ (sW I (lU (eN uT22 I) (lU (nQ I I) (tZ ?_)))))))))))))));refine iP I (fun hne2=>?_) (fun hne2=>?_)
    ·refine rZ (aT I (rE (tR (bR (tR (bR (tR ?_)))))));refine dR (s':=s) (.cons _ (.cons _ (.cons _ (.cons _ (List.sublist_append_right _ _))))) (ST.less hle3 ?_);have hany:(metC tl c.sides).any (fun p=>decide ((p.2.length:Int)≠2))=true:=by
      rw[← hmc,List.any_eq_true];exact⟨(tk,tl2),List.mem_map.2 ⟨_,ht,I⟩,by simpa using hne2⟩
     exact ST.ret1 (.inl I) results52 I ⟨by unfold aroundC; rw[if_neg (by rw[hz0]; exact Bool.false_ne_true),if_pos hany],I,I⟩
    ·obtain ⟨a,bb,rfl⟩:∃ a bb,tl2=[a,bb]:=by
      match tl2,hne2 with
      | [],h=>exact absurd (by simp) h
      | [_],h=>exact absurd (by simp) h
      | [a,bb],_=>exact⟨a,bb,rfl⟩
      | _::_::_::q,h=>exact absurd (by simp only[List.length_cons]; omega) h
     have hbt:=SlA.based hti (by simp);obtain ⟨js',j0,u0,lu,hp1,hp2,hp3,hp4,hp6,hp5⟩:=prep js a;have hjb':=hp6 _ hjb;have hlu:=hjb' _ (List.mem_of_getElem? hp1);dsimp only at hlu;refine kP (tN (sQ ?_));refine SC.to (fun w hw=>hp5 E g3 [iter it2 mm es2 clk2 (vis2++[e2]),pt b13 (.cells #[.map (some mj)] 69 (0,0)),mp mj (prsM js),pt b3 (.cells #[vi ri,vi c.dim,.slice rp c.sides.length rcap] 54 (0,0))] s w hw) ?_;refine SC.drawT 4 [14] [(0,1),(1,2),(2,2),(3,1),(4,1),(5,2),(6,2),(7,1),(8,1),(9,2),(10,2),(11,1),(12,0),(13,0),(14,0)] Tryz.mixed kR ?_;refine pK I (qL isAgg69 I (cO 1 I I)) (yM I (pU I (iA uT22 zT3 I I hbt dC (show (0:Int)<((2:Nat):Int) by decide)) ?_));refine pK I (eB iT3 I (SlA.rd hti) (j:=0) I I) (pK I (qL isAgg69 I (cO 1 I I)) (yM I (pU I (iA uT22 zT3 I I hbt dC (show (0:Int)<((2:Nat):Int) by decide)) ?_)));refine pK I (eB iT3 I (SlA.rd hti) (j:=0) I I) (pK I (SQ.eq (SQ.lookup mty69 I I (MapAt.own 2 I)) hp2) (yM I (pU I (iA uT22 zT3 I I hbt dC (show (1:Int)<((2:Nat):Int) by decide)) ?_)));refine pK rfl (eB iT3 rfl (SlA.rd hti) (j:=1) rfl rfl) (SP.o rfl (bS sty22 rfl rfl rfl (szs_mk sB) dC) dC (.inr (by rintro _ _ _ ⟨b93,rfl,rfl,rfl⟩; exact⟨by exact Le.refl _,(by exact .cons _ (List.take_sublist _ _))⟩)) ?_);rintro _ _ _ ⟨b93,rfl,rfl,rfl⟩;refine SP.o rfl (SO.app1 (j0+4) ((lu++[bb]).flatMap encInt.enc) (lu++[bb]).length sty22 rfl rfl rfl (rows_get hp1 s) rfl ⟨rfl,trivial⟩ (by simp[encInt]; rfl) (by simp) lN lN) dC (.inr (by rintro u1 _ _ ⟨rfl,rfl⟩; exact⟨by exact Le.refl _,(by exact take_set_sub _ _ _ _)⟩)) ?_;rintro u1 _ _ ⟨rfl,rfl⟩;refine SP.on I (SO.mapUpdate 2 mty69 I I I I) (.inl dC) ?_;rintro _ _ _ ⟨rfl,rfl⟩;refine pN (tN (SC.drop (s':=[iter it2 mm es2 clk2 (vis2++[e2]),pt b13 (.cells #[.map (some mj)] 69 (0,0)),mp mj (prsM (js'.set j0 (a,u1,lu++[bb]))),pt b3 (.cells #[vi ri,vi c.dim,.slice rp c.sides.length rcap] 54 (0,0))]++(rowsM (js'.set j0 (a,u1,lu++[bb]))++s)) (by rw[← hp3 u1 bb,← rows_set (v':=u1) (l':=lu++[bb]) hp1 s]; exact .refl _) ?_));have hjb1:∀ t∈(js'.set j0 (a,u1,lu++[bb])),t.2.2.length≤2 * vt.length+1:=fun t ht=>(by rcases List.mem_or_eq_of_mem_set ht with h | h; (have:=hjb' t h; omega); (subst h; simp; omega));obtain ⟨js2,j1,u2,lw,hq1,hq2',hq3,hq4,hq6,hq5⟩:=prep (js'.set j0 (a,u1,lu++[bb])) bb;have hjb2:=hq6 _ hjb1;have hlw:=hjb2 _ (List.mem_of_getElem? hq1);dsimp only at hlw;refine SC.to (fun w hw=>hq5 E g3 [iter it2 mm es2 clk2 (vis2++[e2]),pt b13 (.cells #[.map (some mj)] 69 (0,0)),mp mj (prsM (js'.set j0 (a,u1,lu++[bb]))),pt b3 (.cells #[vi ri,vi c.dim,.slice rp c.sides.length rcap] 54 (0,0))] s w hw) ?_;refine SC.drawT 4 [14] [(0,1),(1,2),(2,2),(3,1),(4,1),(5,2),(6,2),(7,1),(8,1),(9,2),(10,2),(11,1),(12,0),(13,0),(14,0)] Tryz.mixed kR ?_;refine pK I (qL isAgg69 I (cO 1 I I)) (yM I (pU I (iA uT22 zT3 I I hbt dC (show (1:Int)<((2:Nat):Int) by decide)) ?_));refine pK I (eB iT3 I (SlA.rd hti) (j:=1) I I) (pK I (qL isAgg69 I (cO 1 I I)) (yM I (pU I (iA uT22 zT3 I I hbt dC (show (1:Int)<((2:Nat):Int) by decide)) ?_)));refine pK I (eB iT3 I (SlA.rd hti) (j:=1) I I) (pK I (SQ.eq (SQ.lookup mty69 I I (MapAt.own 2 I)) hq2') (yM I (pU I (iA uT22 zT3 I I hbt dC (show (0:Int)<((2:Nat):Int) by decide)) ?_)));refine pK rfl (eB iT3 rfl (SlA.rd hti) (j:=0) rfl rfl) (SP.o rfl (bS sty22 rfl rfl rfl (szs_mk sB) dC) dC (.inr (by rintro _ _ _ ⟨b107,rfl,rfl,rfl⟩; exact⟨by exact Le.refl _,(by exact .cons _ (List.take_sublist _ _))⟩)) ?_);rintro _ _ _ ⟨b107,rfl,rfl,rfl⟩;refine SP.o rfl (SO.app1 (j1+4) ((lw++[a]).flatMap encInt.enc) (lw++[a]).length sty22 rfl rfl rfl (rows_get hq1 s) rfl ⟨rfl,trivial⟩ (by simp[encInt]; rfl) (by simp) lN lN) dC (.inr (by rintro u3 _ _ ⟨rfl,rfl⟩; exact⟨by exact Le.refl _,(by exact take_set_sub _ _ _ _)⟩)) ?_;rintro u3 _ _ ⟨rfl,rfl⟩;refine SP.on I (SO.mapUpdate 2 mty69 I I I I) (.inl dC) ?_;rintro _ _ _ ⟨rfl,rfl⟩;refine pN (bN (dR (s':=[iter it2 mm es2 clk2 (vis2++[e2]),pt b13 (.cells #[.map (some mj)] 69 (0,0)),mp mj (prsM (js2.set j1 (bb,u3,lw++[a]))),pt b3 (.cells #[vi ri,vi c.dim,.slice rp c.sides.length rcap] 54 (0,0))]++(rowsM (js2.set j1 (bb,u3,lw++[a]))++s)) (by rw[← hq3 u3 a,← rows_set (v':=u3) (l':=lw++[a]) hq1 s]; exact .refl _) ?_));exact ST.again (vis2++[e2],vl2++[(tk,.slice tp 2 tc)],vt++[(tk,.slice tp 2 tc,[a,bb])],js2.set j1 (bb,u3,lw++[a])) sB I I ⟨hrv4,by rw[hvl2]; simp[prsM],fun t ht2=>by
       rcases List.mem_append.1 ht2 with h | h
       ·exact hvt t h
       ·simp at h; subst h; exact⟨ht,rfl⟩,by rw[hq4,hp4,hjs]; simp[joinC,conM,joinStep],fun t ht2=>by
       simp only[List.length_append,List.length_singleton]
       rcases List.mem_or_eq_of_mem_set ht2 with h | h
       ·have:=hjb2 t h; omega
       ·subst h; simp; omega⟩ (by
       have:=hrv4.len hmi2;simp only[prsM,List.length_map,List.length_append,List.length_singleton] at this ⊢;omega)
  ·obtain ⟨zp,hzp,rfl⟩:=List.mem_map.1 hq1;refine yX I (tZ (sQ (SC.condT I (kP (tN (bK (rZ (lK (SQ.entryP 0 I I hes1 hmi1 he hk1 hv1) (yX I (aT I (sW I (lU (nQ I I) (tZ ?_)))))))))))));refine iP I (fun hne=>?_) (fun hne=>?_)
   ·refine rZ (aT I (rE (bR (tR (bR (tR ?_))))));refine dR (s':=s) (.cons _ (.cons _ (.refl _))) (ST.less hle3 ?_);have hany:(sumsC tl c.sides).any (fun p=>decide (p.2≠0))=true:=by
     rw[← hz,List.any_eq_true];exact⟨zp,hzp,by simpa using hne⟩
    exact ST.ret1 (.inl I) results52 I ⟨by unfold aroundC; rw[if_pos hany],I,I⟩
   ·refine kP (bN ?_);exact ST.again (vis++[e],vl++[(zp.1,vi zp.2)]) sB I I ⟨hrv2,fun p hp=>by
     rcases List.mem_append.1 hp with h | h
     ·exact hvz p h
     ·simp at h; subst h;have:zp.2=0:=by simpa using hne
      simp[this]⟩ (by
     have:=hrv2.len hmi1;simp only[prsZ,List.length_map,List.length_append,List.length_singleton] at this ⊢;omega)
def chk1 (tl:List Cl):List Cl→Int→Option (Int×Int)
 | [],_=>none
 | x::r,last=>if x.id≤last then some (x.id,20) else if formC tl x≠0 then some (x.id,formC tl x) else chk1 tl r x.id
def chk2 (tl:List Cl):List Cl→Option (Int×Int)
 | []=>none
 | x::r=>if x.dim>1∧aroundC tl x≠0 then some (x.id,aroundC tl x) else chk2 tl r
def checkC (l:List Cl):Int×Int:=if (l.length:Int)>4000 then (0,2) else (chk1 (tabC l) (canonC l) 0).getD ((chk2 (tabC l) (canonC l)).getD (0,0))
theorem form_ok {tl:List Cl}{c:Cl}(h:formC tl c=0):c.sides.length≤64∧∀ x∈c.sides,x.sign=1∨x.sign = -1:=by
 unfold formC at h;split at h
 ·simp at h
 ·rename_i hdb;split at h
  ·simp at h
  ·rename_i hcb;split at h
   ·simp at h
   ·split at h
    ·simp at h
    ·rename_i hsg;refine⟨?_,fun x hx=>?_⟩
     ·simp[dimBad] at hdb;simp[cntBad] at hcb
      rcases Int.lt_trichotomy c.dim 1 with h | h | h
      ·have:c.dim=0:=oM;have:=hcb.1.1 this;simp[this]
      ·have:=hcb.1.2 h;omega
      ·have:=hcb.2 h;omega
     ·have h1:c.sides.any signBad=false:=by simpa using hsg
      rw[List.any_eq_false] at h1;have h2:=h1 x hx;simp only[signBad,Bool.and_eq_true,decide_eq_true_eq,ne_eq,not_and,Decidable.not_not] at h2;by_cases h3:x.sign=1
      ·exact .inl h3
      ·exact .inr (h2 h3)
theorem chk1_none {tl:List Cl}:∀ {l:List Cl} {last:Int},chk1 tl l last=none→∀ x∈l,formC tl x=0
 | [],_,_,x,hx=>by simp at hx
 | y::r,last,h,x,hx=>by
  unfold chk1 at h;split at h
  ·simp at h
  ·split at h
   ·simp at h
   ·rename_i h0
    rcases List.mem_cons.1 hx with rfl | hx
    ·exact Decidable.of_not_not h0
    ·exact chk1_none h x hx
theorem aok_of {l:List Cl}(h:∀ x∈canonC l,formC (tabC l) x=0){c:Cl}(hc:c∈canonC l):AOk (tabC l) c:=by
 obtain ⟨h1,h2⟩:=form_ok (h c hc);refine⟨h1,h2,fun x hx=>?_⟩;unfold sidesOf;cases hf:findT (tabC l) x.cell with
 | none=>simp[zeroC]
 | some y=>exact form_ok (h y (tabC_mem (findT_mem hf).1))
theorem check_spec (E:World)(g:PH)(s:Own)(v:Value)(l:List Cl)(hv:Cells g v l)(hf:Fits l) :
  Ctr Tryz.prog E 24 #[.agg #[v]] g s (fun r g' s'=>r = .tuple #[vi (checkC l).1,vi (checkC l).2]∧g=g'∧s=s'):=by
 have hfc:=canonC_fits hf;have hfl:=hf.1;obtain ⟨p,cp,hvf⟩:=hv.form;subst hvf;refine Ctr.of (args:=[.agg #[.slice p l.length cp]]) func24 I ntmps24 (bE I) ?_;refine rZ (bW (bO I) fun b1=>?_);refine lA I (aT I (sQ (rZ (lU (fA uT29 I zT27 I) (lK (qL iT27 I (cO 0 I I)) (lU (eN uT27 I) (lU (gR I I) (tZ ?_))))))));refine iP I (fun hbig=>?_) (fun hbig=>?_)
 ·refine rZ (lA I (aT I (rE (tR (dR (s':=s) uR ?_)))));exact ST.ret2 (.inl I) results24 I I ⟨by unfold checkC; rw[if_pos hbig],I,I⟩
 ·refine kP (tN (rZ (lK (qV 0 iT29 zT29 I I I) (lW (SO.call call49 I (of_spec E g _ _ l hv hf)) ?_))));rintro tv g1 _ ⟨rfl,hle1,ht⟩;refine aT I (rZ (lK (qV 0 iT29 zT29 I I I) (lW (SO.call call50 I (canon_spec E g1 _ _ l (hv.mono hle1) hf)) ?_)));rintro _ g2 _ ⟨rfl,hle2,u,rfl,rs,hrs,hall⟩;obtain ⟨q,d,rfl⟩:=hrs.form;refine lU (SU.field uT29 I iT27 I I) (lA I (aT I (sQ (sW I (lU (eN uT27 I) (lM I (tZ (bK ?_))))))));have hres:checkC l=(chk1 (tabC l) (canonC l) 0).getD ((chk2 (tabC l) (canonC l)).getD (0,0)):=by unfold checkC; rw[if_neg hbig]
  have ht2:=ht.mono hle2;have hlen:=hall.length;have hcl:=hfc.1;have hleg:=hle1.trans hle2;refine oP (ι:=Nat×Int) (fun i=>[(4,tv),(5,vi i.2),(6,.slice q rs.length d),(22,.slice q rs.length d),(23,vi rs.length),(24,vi i.1)]) (fun _=>g2)
   (fun _=>pt b1 (.cells #[.slice p l.length cp] 29 (0,0))::s) (fun i=>i.1≤rs.length∧chk1 (tabC l) (canonC l) 0=chk1 (tabC l) ((canonC l).drop i.1) i.2) (fun i=>rs.length - i.1) (0,0)
   sB rfl rfl ⟨Nat.zero_le _,by simp⟩ ?_
  rintro ⟨k,last⟩ ⟨hk,heq⟩;dsimp only at hk heq ⊢;refine rZ (yL I (tZ (sQ ?_)));refine iP I (fun hlt=>?_) (fun hlt=>?_)
  ·have hkr:k<rs.length:=oM;have hkc:k<(canonC l).length:=oM;have hb1:=hrs.based oM;have hcr:=hall.get (gE hkc) (gE hkr);have hgx:rs[((k:Nat):Int).toNat]?=some rs[k]:=gE hkr;have hdrop:(canonC l).drop k=(canonC l)[k]::(canonC l).drop (k+1):=List.drop_eq_getElem_cons hkc;have hxl:=hfc.2 _ (gM hkc);generalize rs[k]=x at *;generalize (canonC l)[k]=cx at *;rw[hdrop] at heq;obtain ⟨xi,xd,xv⟩:=x;have hxi:xi=cx.id:=hcr.1;subst hxi;refine kP (tN (sQ (bK (rZ (lU (iA uT27 zT54 I I hb1 oM sL) (lK (eA iT54 zT54 I hrs.rd hgx) (bW (aL zeroValue54) fun b8=>?_)))))));refine oZ (sK 0 zT54 I I I I I sB) ?_;refine tZ (sQ (rZ (lU (fA uT54 I zT3 I) (lK (qL iT3 I (cO 0 I I)) (lM I (lU (SU.leq I I) (tZ ?_)))))));refine iP I (fun hid=>?_) (fun hid=>?_)
   ·refine rZ (lU (fA uT54 I zT3 I) (lK (qL iT3 I (cO 0 I I)) (lA I (aT I (rE (tR (bR (tR (tR (bR (tR ?_)))))))))));refine dR (s':=s) (.cons _ (.cons _ (.refl _))) (ST.less hleg ?_);have h1:checkC l=(cx.id,20):=by rw[hres,heq]; unfold chk1; rw[if_pos hid]; rfl
    exact ST.ret2 (.inl rfl) results24 rfl rfl ⟨by (rw[h1]; rfl),rfl,rfl⟩
   ·refine kP (tN (rZ (lU (fA uT54 I zT3 I) (lK (qL iT3 I (cO 0 I I)) (aT I (sW I (lK (qV 0 iT54 zT54 I I I) (lW (SO.call call51 I (form_spec E g2 _ tv (tabC l) cx _ ht2 hcr hxl)) ?_))))))));rintro _ _ _ ⟨rfl,rfl,rfl⟩;refine aT I (sW I (lU (nQ I I) (tZ ?_)));refine iP I (fun he=>?_) (fun he=>?_)
    ·refine rZ (lU (fA uT54 I zT3 I) (lK (qL iT3 I (cO 0 I I)) (lM I (lA I (aT I (rE (bR (tR (tR (bR (tR ?_)))))))))));refine dR (s':=s) (.cons _ (.cons _ (.refl _))) (ST.less hleg ?_);have h1:checkC l=(cx.id,formC (tabC l) cx):=by rw[hres,heq]; unfold chk1; rw[if_neg hid,if_pos he]; rfl
     exact ST.ret2 (.inl rfl) results24 rfl rfl ⟨by (rw[h1]; rfl),rfl,rfl⟩
    ·refine kP (bN (tN (rG (yD I (lM I (nL (dR (s':=pt b1 (.cells #[.slice p l.length cp] 29 (0,0))::s) (.cons _ (.refl _)) ?_)))))));exact ST.again (k+1,cx.id) sB I I ⟨lN,by rw[heq]; rw[chk1,if_neg hid,if_neg he]⟩ lN
  ·have hkk:(canonC l).drop k=[]:=List.drop_of_length_le oM;rw[hkk] at heq;have hall0:=chk1_none heq;refine xI (tX (tX (bX (tN (sQ (sW I (lU (eN uT27 I) (lM I (tZ (bK ?_))))))))));refine oP (ι:=Nat) (fun i=>[(4,tv),(45,.slice q rs.length d),(46,vi rs.length),(47,vi i)]) (fun _=>g2)
    (fun _=>pt b1 (.cells #[.slice p l.length cp] 29 (0,0))::s) (fun i=>i≤rs.length∧chk2 (tabC l) (canonC l)=chk2 (tabC l) ((canonC l).drop i)) (fun i=>rs.length - i) 0
    sB rfl rfl ⟨Nat.zero_le _,by simp⟩ ?_
   rintro k ⟨hk,heq2⟩;try dsimp only
   refine rZ (yL I (tZ (sQ ?_)));refine iP I (fun hlt2=>?_) (fun hlt2=>?_)
   ·have hkr:k<rs.length:=oM;have hkc:k<(canonC l).length:=oM;have hb1:=hrs.based oM;have hcr:=hall.get (gE hkc) (gE hkr);have hgx:rs[((k:Nat):Int).toNat]?=some rs[k]:=gE hkr;have hdrop:(canonC l).drop k=(canonC l)[k]::(canonC l).drop (k+1):=List.drop_eq_getElem_cons hkc;have hcm:=gM hkc;have haok:=aok_of hall0 hcm;generalize rs[k]=x at *;generalize (canonC l)[k]=cx at *;rw[hdrop] at heq2;obtain ⟨xi,xd,xv⟩:=x;have hxi:xi=cx.id:=hcr.1;have hxd:xd=cx.dim:=hcr.2.1;subst hxi hxd;refine kP (tN (sQ (bK (rZ (lU (iA uT27 zT54 I I hb1 oM sL) (lK (eA iT54 zT54 I hrs.rd hgx) (bW (aL zeroValue54) fun b11=>?_)))))));refine oZ (sK 0 zT54 I I I I I sB) ?_;refine tZ (rZ (lU (fA uT54 I zT3 I) (lK (qL iT3 I (cO 0 I I)) (lU (gR I I) (tZ ?_)))));refine iP I (fun hd1=>?_) (fun hd1=>?_)
    ·refine sW I (lK (qV 0 iT54 zT54 I I I) (lW (SO.call call52 I (around_spec E g2 _ tv (tabC l) cx _ ht2 hcr haok)) ?_));rintro _ _ _ ⟨rfl,rfl,rfl⟩;refine aT I (sW I (lU (nQ I I) (tZ ?_)));refine iP I (fun he=>?_) (fun he=>?_)
     ·refine rZ (lU (fA uT54 I zT3 I) (lK (qL iT3 I (cO 0 I I)) (lM I (lA I (aT I (rE (bR (tR (tR (bR (tR ?_)))))))))));refine dR (s':=s) (.cons _ (.cons _ (.refl _))) (ST.less hleg ?_);have h1:checkC l=(cx.id,aroundC (tabC l) cx):=by rw[hres,heq,heq2]; unfold chk2; rw[if_pos ⟨hd1,he⟩]; rfl
      exact ST.ret2 (.inl rfl) results24 rfl rfl ⟨by (rw[h1]; rfl),rfl,rfl⟩
     ·refine kP (bN (tN (rG (yD I (lM I (nL (dR (s':=pt b1 (.cells #[.slice p l.length cp] 29 (0,0))::s) (.cons _ (.refl _)) ?_)))))));exact ST.again (k+1) sB I I ⟨oM,by rw[heq2]; rw[chk2,if_neg (fun h=>he h.2)]⟩ oM
    ·refine kP (bN (tN (rG (yD I (lM I (nL (dR (s':=pt b1 (.cells #[.slice p l.length cp] 29 (0,0))::s) (.cons _ (.refl _)) ?_)))))));exact ST.again (k+1) sB I I ⟨oM,by rw[heq2]; rw[chk2,if_neg (fun h=>hd1 h.1)]⟩ oM
   ·have hkk2:(canonC l).drop k=[]:=List.drop_of_length_le oM;rw[hkk2] at heq2;refine xI (tX (tX (bX (tN (rZ (lA I (aT I (rE ?_))))))));refine dR (s':=s) (.cons _ (.refl _)) (ST.less hleg ?_);have h1:checkC l=(0,0):=by rw[hres,heq,heq2]; rfl
    exact ST.ret2 (.inl I) results24 I I ⟨by (rw[h1]; done),I,I⟩
def lbI (l:List Int)(x:Int):Nat:=(l.filter fun y=>decide (y<x)).length
theorem lb_eq {l:List Int}{x:Int}{i:Nat}(hi:i≤l.length)(h1:∀ k (h:k<l.length),k<i→l[k]<x)(h2:∀ k (h:k<l.length),i≤k→x≤l[k]):lbI l x=i:=by
 unfold lbI;have e:l=l.take i++l.drop i:=(List.take_append_drop i l).symm;rw[e,List.filter_append];have f1:(l.take i).filter (fun y=>decide (y<x))=l.take i:=by
  rw[List.filter_eq_self];intro y hy;obtain ⟨k,hk,rfl⟩:=List.getElem_of_mem hy;simp at hk;simpa using h1 k oM oM
 have f2:(l.drop i).filter (fun y=>decide (y<x))=[]:=by
  rw[List.filter_eq_nil_iff];intro y hy;obtain ⟨k,hk,rfl⟩:=List.getElem_of_mem hy;simp at hk;have:=h2 (i+k) oM oM;simp only[List.getElem_drop];simp;omega
 rw[f1,f2];simp;omega
theorem found_eq {l:List Int}{x:Int}{i:Nat}(hs:l.Pairwise (· ≤ ·))(h1:∀ k (h:k<l.length),k<i→l[k]<x)(h2:∀ k (h:k<l.length),i≤k→x≤l[k])(hi:i<l.length):decide (l[i]=x)=l.contains x:=by
 rw[Bool.eq_iff_iff];simp;constructor
 ·intro e; rw[← e]; exact gM hi
 ·intro hm;obtain ⟨k,hk,e⟩:=List.getElem_of_mem hm;have hki:i≤k:=by
   rcases Nat.lt_or_ge k i with h | h
   ·have:=h1 k hk h; omega
   ·exact h
  have h3:=h2 i hi (lR _)
  rcases Nat.eq_or_lt_of_le hki with rfl | h
  ·exact e
  ·have:=List.pairwise_iff_getElem.1 hs i k hi hk h;omega
theorem notFound {l:List Int}{x:Int}{i:Nat}(h1:∀ k (h:k<l.length),k<i→l[k]<x)(hi:¬ i<l.length):l.contains x=false:=by
 rw[Bool.eq_false_iff];intro hm;simp at hm;obtain ⟨k,hk,e⟩:=List.getElem_of_mem hm;have:=h1 k hk oM;omega
def signC (n:Int):Int:=1 - 2 * (n % 2)
theorem and_one (n:Int):IntKind.i64.wrap ((BitVec.ofInt IntKind.i64.bits n &&& BitVec.ofInt IntKind.i64.bits 1).toNat:Int)=n % 2:=by
 have h1:(BitVec.ofInt 64 n &&& BitVec.ofInt 64 1).toNat=(n % 2).toNat:=by
  rw[BitVec.toNat_and,show (BitVec.ofInt 64 1).toNat=1 from rfl,Nat.and_one_is_mod,BitVec.toNat_ofInt];omega
 show IntKind.i64.wrap ((BitVec.ofInt 64 n &&& BitVec.ofInt 64 1).toNat:Int)=n % 2;rw[h1,IntWalk.i64_in _ oM];omega
theorem foldl_sub (l:List Cl):∀ acc:List Cl,∃ r,l.foldl addC acc=acc++r∧r.Sublist l:=by
 induction l with
 | nil=>intro acc; exact⟨[],by simp,.refl _⟩
 | cons c t ih =>
  intro acc;simp only[List.foldl_cons];obtain ⟨r,h1,h2⟩:=ih (addC acc c);unfold addC at h1;unfold addC;split at h1
  ·rename_i hc;rw[if_pos hc];exact⟨r,h1,h2.cons _⟩
  ·rename_i hc;rw[if_neg hc];exact⟨c::r,by rw[h1]; simp,h2.cons_cons _⟩
theorem tabC_sub (l:List Cl):(tabC l).Sublist (canonC l):=by
 obtain ⟨r,h1,h2⟩:=foldl_sub (canonC l) [];unfold tabC;rw[h1];simpa using h2
theorem canonC_ids (l:List Cl):(canonC l).map Cl.id=(sortBy Cl.id l).map Cl.id:=by
 unfold canonC;rw[List.map_map];rfl
theorem canonC_sorted (l:List Cl):((canonC l).map Cl.id).Pairwise (· ≤ ·):=by
 rw[canonC_ids,List.pairwise_map];exact sortBy_srt l
theorem tabC_sorted (l:List Cl):((tabC l).map Cl.id).Pairwise (· ≤ ·):=(canonC_sorted l).sublist ((tabC_sub l).map _)
theorem check_len {l:List Cl}(h:(checkC l).2=0):l.length≤4000:=by
 unfold checkC at h;split at h
 ·simp at h
 ·omega
theorem Tryz.buildE29 (w:World):(Instr.build 29 #[]).run Tryz.prog w = .ok (.agg #[.slice none 0 0]) w:=by
 simp[Instr.build,Instr.fill];rfl
theorem Tryz.buildC54 (x y:Int)(w:World):(Instr.build 54 #[(0,vi x),(1,vi y)]).run Tryz.prog w = .ok (.agg #[vi x,vi y,.slice none 0 0]) w:=by
 have hz:(Value.agg #[vi 0,vi 0,Value.slice none 0 0]).cells = #[vi 0,vi 0,.slice none 0 0]:=rfl;have h1:∀ z:Int,(vi z).cells = #[vi z]:=fun _=>rfl;simp[Instr.build,Instr.fill,hz,h1]
theorem Tryz.buildS56 (x y:Int)(w:World):(Instr.build 56 #[(0,vi x),(1,vi y)]).run Tryz.prog w = .ok (.agg #[vi x,vi y]) w:=by
 have hz:(Value.agg #[vi 0,vi 0]).cells = #[vi 0,vi 0]:=rfl;have h1:∀ z:Int,(vi z).cells = #[vi z]:=fun _=>rfl;simp[Instr.build,Instr.fill,hz,h1]
theorem chk1_ne {tl:List Cl}:∀ {l:List Cl} {last:Int} {p:Int×Int},chk1 tl l last=some p→p.2≠0
 | [],_,_,h=>by simp[chk1] at h
 | y::r,last,p,h=>by
  unfold chk1 at h;split at h
  ·injection h with h; subst h; show (20:Int)≠0; decide
  ·split at h
   ·rename_i h0; injection h with h; subst h; exact h0
   ·exact chk1_ne h
theorem canonC_length (l:List Cl):(canonC l).length=l.length:=by simp[canonC,sortBy_length]
theorem tabC_length (l:List Cl):(tabC l).length≤l.length:=by
 rw[← canonC_length l];exact (tabC_sub l).length_le
def orI:List Int→Int
 | []=>0
 | a::r=>if a≠0 then a else orI r
def cmpL:List Int→List Int→Int
 | [],[]=>0
 | [],_::_=>-1
 | _::_,[]=>1
 | a::r,b::t=>if cmpI a b≠0 then cmpI a b else cmpL r t
def compareC (a b:List Int):Int:=if cmpI a.length b.length≠0 then cmpI a.length b.length else cmpL a b
theorem or_spec (E:World)(g:PH)(s:Own)(v:Value)(l:List Int)(hv:Rd g s v (l.flatMap encInt.enc))(hf:∃ p c,v = .slice p l.length c)(hb:0<l.length→based v=true)(hl:l.length<1099511627776) :
  Ctr Tryz.prog E 153 #[v] g s (fun r g' s'=>r=vi (orI l)∧g=g'∧s=s'):=by
 obtain ⟨p,c,rfl⟩:=hf;refine Ctr.of (args:=[.slice p l.length c]) func153 I ntmps153 (bE I) ?_;refine rZ (aT I (rZ (aT I (sQ (sW I (lU (eN uT22 I) (lM I (tZ (bK ?_)))))))));refine oP (ι:=Nat) (fun k=>[(3,vi 0),(6,.slice p l.length c),(7,vi l.length),(8,vi k)]) (fun _=>g) (fun _=>s) (fun k=>k≤l.length∧orI l=orI (l.drop k)) (fun k=>l.length - k) 0
  sB rfl rfl ⟨Nat.zero_le _,by simp⟩ ?_
 rintro k ⟨hk,heq⟩;refine rZ (yL I (tZ (sQ ?_)));refine iP I (fun hlt=>?_) (fun hlt=>?_)
 ·have hkl:k<l.length:=oM;have hb1:=hb oM;have hgx:l[((k:Nat):Int).toNat]?=some l[k]:=gE hkl;have hdrop:l.drop k=l[k]::l.drop (k+1):=List.drop_eq_getElem_cons hkl;generalize l[k]=x at *;rw[hdrop] at heq;refine kP (tN (sQ (bK (rZ (lU (iA uT22 zT3 I I hb1 oM sL) (lK (eB iT3 I hv hgx I) (aT I (sW I (lM I (lU (nQ I I) (tZ ?_)))))))))));refine iP I (fun hd=>?_) (fun hd=>?_)
  ·refine sW I (aT I (rE (bR (tR (tR (bR (tR ?_)))))));exact ST.ret1 (.inl I) results153 I ⟨by rw[heq,orI,if_pos hd],I,I⟩
  ·refine kP (bN (tN (rG (yD I (lM I (nL ?_))))));exact ST.again (k+1) sB I I ⟨oM,by rw[heq,orI,if_neg hd]⟩ oM
 ·refine xI (tX (tX (bX (tN (sW I (aT I (rE ?_)))))));have hkk:l.drop k=[]:=List.drop_of_length_le oM;rw[hkk] at heq;exact ST.ret1 (.inl rfl) results153 rfl ⟨by rw[heq]; rfl,rfl,rfl⟩
theorem equalInts (E:World)(g:PH)(s:Own)(v u:Value)(l m:List Int)(hv:Ints g v l)(hu:Ints g u m)(hl:l.length<1099511627776) :
  Ctr Tryz.prog E 141 #[v,u] g s (fun r g' s'=>r=vb (decide (l=m))∧g=g'∧s=s'):=by
 obtain ⟨p,c,rfl⟩:=SlA.form hv;obtain ⟨q,d,rfl⟩:=SlA.form hu;refine Ctr.of (args:=[.slice p l.length c,.slice q m.length d]) func141 I ntmps141 (bE I) ?_;refine rZ (aT I (sQ (sW I (lU (eN uT22 I) (lM I (lU (eN uT22 I) (lU (nQ I I) (tZ ?_))))))));refine iP I (fun hne=>?_) (fun hne=>?_)
 ·refine rZ (aT I (rE (tR ?_)));exact ST.ret1 (.inl I) results141 I ⟨by have:l≠m:=fun e=>hne (by rw[e]); simp[this],I,I⟩
 ·refine kP (tN (sQ (sW I (lU (eN uT22 I) (lM I (tZ (bK ?_)))))));have hlen:l.length=m.length:=oM;refine oP (ι:=Nat) (fun k=>[(0,.slice p l.length c),(1,.slice q m.length d),(12,vi l.length),(13,vi k)]) (fun _=>g) (fun _=>s) (fun k=>k≤l.length∧l.take k=m.take k) (fun k=>l.length - k) 0
   sB rfl rfl ⟨Nat.zero_le _,by simp⟩ ?_
  rintro k ⟨hk,heq⟩;refine rZ (yL I (tZ (sQ ?_)));refine iP I (fun hlt=>?_) (fun hlt=>?_)
  ·have hkl:k<l.length:=oM;have hkm:k<m.length:=oM;have hb1:=SlA.based hv oM;have hb2:=SlA.based hu oM;refine kP (tN (sQ (bK (sW I (aT I (sQ ?_))))));refine dW [] [(0,2),(1,2),(2,2),(3,1),(4,2),(5,2),(6,2),(7,1),(8,2)] Tryz.mixed kR ?_;refine yM I (yM I (pU I (iA uT22 zT3 I I hb1 oM sL) ?_));refine pQ I (eB iT3 I (SlA.rd hv) (gE hkl) I) dC ?_;refine yM I (yM I (pU I (iA uT22 zT3 I I hb2 oM sL) ?_));refine pQ I (eB iT3 I (SlA.rd hu) (gE hkm) I) dC ?_;refine pU I (nQ I I) (pN (tN ?_));refine iP I (fun hd=>?_) (fun hd=>?_)
   ·refine rZ (aT I (rE (bR (tR (tR (bR (tR ?_)))))));exact ST.ret1 (.inl I) results141 I ⟨by have:l≠m:=fun e=>hd (by simp[e]); simp[this],I,I⟩
   ·refine kP (bN (tN (rG (yD I (lM I (nL ?_))))));exact ST.again (k+1) sB I I ⟨oM,take_eq_succ hkl hkm heq (Decidable.of_not_not hd)⟩ oM
  ·refine xI (tX (tX (bX (tN (rZ (aT I (rE ?_)))))));have hkk:k=l.length:=oM;subst hkk;have:l=m:=take_eq_all hlen heq;exact ST.ret1 (.inl I) results141 I ⟨by simp[this],I,I⟩
def ListR (g:PH)(l:List Int)(r:Sv):Prop:=Ints g (.slice r.p r.n r.c) l
theorem ListR.mono {g g':PH}(hl:Le g g'){l:List Int}{r:Sv}(h:ListR g l r):ListR g' l r:=SlA.mono h hl
theorem ListR.len {g:PH}{l:List Int}{r:Sv}(h:ListR g l r):r.n=l.length:=(SlA.cap h).1
def Lists (g:PH)(v:Value)(l:List (List Int)):Prop:=∃ rs,SlA encSv g v rs∧All2 (ListR g) l rs
theorem Lists.mono {g g':PH}{v:Value}{l:List (List Int)}(h:Lists g v l)(hl:Le g g'):Lists g' v l:=by
 obtain ⟨rs,h1,h2⟩:=h;exact⟨rs,h1.mono hl,h2.mono fun _ _=>ListR.mono hl⟩
def pickB (bits:Nat)(l:List Int):List Int:=(l.zipIdx.filter fun p=>bits / 2 ^ p.2 % 2 == 1).map (·.1)
def subsetsC (l:List Int):List (List Int):=(List.range (2 ^ l.length - 1)).map fun i=>pickB (i+1) l
theorem shl_one:∀ n,n<10→IntKind.i64.wrap (1 * 2 ^ min ((n:Nat):Int).toNat IntKind.i64.bits)=((2 ^ n:Nat):Int):=by decide
theorem shr_bit (b k:Nat)(hk:k<10):(((b:Nat):Int).fdiv (2 ^ min ((k:Nat):Int).toNat IntKind.i64.bits)) % 2=((b / 2 ^ k % 2:Nat):Int):=by
 have h1:min ((k:Nat):Int).toNat IntKind.i64.bits=k:=by
  have:IntKind.i64.bits=64:=rfl;rw[this]; omega
 rw[h1,Int.fdiv_eq_ediv_of_nonneg _ (Int.le_of_lt (Int.pow_pos dC))];simp
theorem pow_le (n:Nat)(h:n≤9):2 ^ n≤512:=by
 have:(2:Nat) ^ n≤2 ^ 9:=Nat.pow_le_pow_right dC h;simpa using this
theorem pickB_succ {bits k:Nat}{l:List Int}(h:k<l.length):pickB bits (l.take (k+1))=if bits / 2 ^ k % 2=1 then pickB bits (l.take k)++[l[k]] else pickB bits (l.take k):=by
 unfold pickB;rw[tS h,List.zipIdx_append,List.filter_append,List.map_append];have:(List.take k l).length=k:=by rw[List.length_take]; omega
 rw[this];simp only[List.zipIdx_cons,List.zipIdx_nil,Nat.zero_add,List.filter_cons,List.filter_nil];by_cases hb:bits / 2 ^ k % 2=1
 ·simp[hb]
 ·simp[hb]
theorem pickB_length (bits:Nat)(l:List Int):(pickB bits l).length≤l.length:=by
 unfold pickB;rw[List.length_map];have:=List.length_filter_le (fun p:Int×Nat=>bits / 2 ^ p.2 % 2 == 1) l.zipIdx;simpa using this
def uniqGo {α:Type}(eq:α→α→Bool):α→List α→List α
 | _,[]=>[]
 | x,y::r=>if eq y x then uniqGo eq y r else y::uniqGo eq y r
def uniq {α:Type}(eq:α→α→Bool):List α→List α
 | []=>[]
 | x::r=>x::uniqGo eq x r
theorem uniqGo_length {α:Type}(eq:α→α→Bool):∀ (x:α) (r:List α),(uniqGo eq x r).length≤r.length
 | _,[]=>lR _
 | x,y::r=>by
  have:=uniqGo_length eq y r;simp only[uniqGo];split <;> simp <;> omega
theorem uniq_length {α:Type}(eq:α→α→Bool)(l:List α):(uniq eq l).length≤l.length:=by
 cases l with
 | nil=>exact lR _
 | cons x r=>have:=uniqGo_length eq x r; simp[uniq]; exact this
def lbL (ls:List (List Int))(t:List Int):Nat:=(ls.filter fun x=>decide (compareC x t<0)).length
theorem lb_gen {α:Type}{p:α→Bool}{l:List α}{i:Nat}(hi:i≤l.length)(h1:∀ k (h:k<l.length),k<i→p l[k]=true)(h2:∀ k (h:k<l.length),i≤k→p l[k]=false):(l.filter p).length=i:=by
 rw[← List.take_append_drop i l,List.filter_append,List.length_append];have f1:(l.take i).filter p=l.take i:=List.filter_eq_self.2 fun x hx=>by
  obtain ⟨k,hk,rfl⟩:=List.getElem_of_mem hx;rw[List.length_take] at hk;rw[List.getElem_take];exact h1 k oM oM
 have f2:(l.drop i).filter p=[]:=List.filter_eq_nil_iff.2 fun x hx=>by
  obtain ⟨k,hk,rfl⟩:=List.getElem_of_mem hx;rw[List.length_drop] at hk;rw[List.getElem_drop,h2 (i+k) oM oM];simp
 rw[f1,f2];simp;omega
theorem cmpI_cases (a b:Int):(a<b∧cmpI a b = -1)∨(a=b∧cmpI a b=0)∨(b<a∧cmpI a b=1):=by
 unfold cmpI;by_cases h:a<b
 ·exact .inl ⟨h,if_pos h⟩
 ·by_cases h2:a>b
  ·exact .inr (.inr ⟨h2,by rw[if_neg h,if_pos h2]⟩)
  ·exact .inr (.inl ⟨oM,by rw[if_neg h,if_neg h2]⟩)
theorem cmpL_antisymm:∀ a b:List Int,cmpL b a = - cmpL a b
 | [],[]=>rfl
 | [],_::_=>rfl
 | _::_,[]=>rfl
 | x::a,y::b=>by
  have ih:=cmpL_antisymm a b;simp only[cmpL]
  rcases cmpI_cases x y with ⟨h,e⟩ | ⟨h,e⟩ | ⟨h,e⟩ <;> rcases cmpI_cases y x with ⟨h',e'⟩ | ⟨h',e'⟩ | ⟨h',e'⟩ <;> simp[e,e'] <;> omega
theorem cmpL_eq:∀ a b:List Int,cmpL a b=0↔a=b
 | [],[]=>by simp[cmpL]
 | [],_::_=>by simp[cmpL]
 | _::_,[]=>by simp[cmpL]
 | x::a,y::b=>by
  have ih:=cmpL_eq a b;simp only[cmpL]
  rcases cmpI_cases x y with ⟨h,e⟩ | ⟨h,e⟩ | ⟨h,e⟩
  ·simp[e]; omega
  ·subst h; simp[e,ih]
  ·simp[e]; omega
theorem cmpL_trans:∀ a b c:List Int,cmpL a b<0→cmpL b c<0→cmpL a c<0
 | [],[],_,h,_=>by simp[cmpL] at h
 | [],_::_,[],_,h=>by simp[cmpL] at h
 | [],_::_,_::_,_,_=>by simp[cmpL]
 | _::_,[],_,h,_=>by simp[cmpL] at h
 | _::_,_::_,[],_,h=>by simp[cmpL] at h
 | x::a,y::b,z::c,h1,h2=>by
  have ih:=cmpL_trans a b c;simp only[cmpL] at h1 h2 ⊢
  rcases cmpI_cases x y with ⟨h,e⟩ | ⟨h,e⟩ | ⟨h,e⟩ <;> rcases cmpI_cases y z with ⟨h',e'⟩ | ⟨h',e'⟩ | ⟨h',e'⟩ <;> rcases cmpI_cases x z with ⟨h'',e''⟩ | ⟨h'',e''⟩ | ⟨h'',e''⟩ <;> simp[e,e',e''] at h1 h2 ⊢ <;> first | omega | exact ih h1 h2
theorem compareC_antisymm (a b:List Int):compareC b a = - compareC a b:=by
 have h1:=cmpL_antisymm a b;unfold compareC
 rcases cmpI_cases a.length b.length with ⟨h,e⟩ | ⟨h,e⟩ | ⟨h,e⟩ <;> rcases cmpI_cases b.length a.length with ⟨h',e'⟩ | ⟨h',e'⟩ | ⟨h',e'⟩ <;> simp[e,e'] <;> omega
theorem compareC_eq (a b:List Int):compareC a b=0↔a=b:=by
 have h1:=cmpL_eq a b;unfold compareC
 rcases cmpI_cases a.length b.length with ⟨h,e⟩ | ⟨h,e⟩ | ⟨h,e⟩
 ·simp[e]; intro h2; rw[h2] at h; omega
 ·simp[e,h1]
 ·simp[e]; intro h2; rw[h2] at h; omega
theorem compareC_trans (a b c:List Int)(h1:compareC a b<0)(h2:compareC b c<0):compareC a c<0:=by
 have ih:=cmpL_trans a b c;unfold compareC at *
 rcases cmpI_cases a.length b.length with ⟨h,e⟩ | ⟨h,e⟩ | ⟨h,e⟩ <;> rcases cmpI_cases b.length c.length with ⟨h',e'⟩ | ⟨h',e'⟩ | ⟨h',e'⟩ <;> rcases cmpI_cases a.length c.length with ⟨h'',e''⟩ | ⟨h'',e''⟩ | ⟨h'',e''⟩ <;> simp[e,e',e''] at h1 h2 ⊢ <;> first | omega | exact ih h1 h2
theorem compareC_self (a:List Int):compareC a a=0:=(compareC_eq a a).2 rfl
theorem compareC_cases (a b:List Int):compareC a b<0∨a=b∨compareC b a<0:=by
 have h1:=compareC_antisymm a b
 rcases Int.lt_trichotomy (compareC a b) 0 with h | h | h
 ·exact .inl h
 ·exact .inr (.inl ((compareC_eq a b).1 h))
 ·exact .inr (.inr oM)
theorem compareC_ntrans (a b c:List Int)(h1:¬ compareC a b<0)(h2:¬ compareC b c<0):¬ compareC a c<0:=by
 intro h3
 rcases compareC_cases a b with h | h | h
 ·exact h1 h
 ·subst h; exact h2 h3
 ·exact h2 (compareC_trans b a c h h3)
def SrtL (l:List (List Int)):Prop:=l.Pairwise fun a b=>¬ compareC b a<0
def insL (x:List Int):List (List Int)→List (List Int)
 | []=>[x]
 | y::r=>if compareC y x<0 then y::insL x r else x::y::r
def sortL:List (List Int)→List (List Int)
 | []=>[]
 | x::r=>insL x (sortL r)
theorem insL_perm (x:List Int):∀ l,(insL x l).Perm (x::l)
 | []=>.refl _
 | y::r=>by
  unfold insL;split
  ·exact ((insL_perm x r).cons y).trans (.swap x y r)
  ·exact .refl _
theorem sortL_perm:∀ l,(sortL l).Perm l
 | []=>.refl _
 | x::r=>(insL_perm x (sortL r)).trans ((sortL_perm r).cons x)
theorem insL_srt (x:List Int):∀ {l},SrtL l→SrtL (insL x l)
 | [],_=>List.pairwise_singleton _ _
 | y::r,h=>by
  obtain ⟨h1,h2⟩:=List.pairwise_cons.1 h;unfold insL;split
  ·rename_i hy;refine List.pairwise_cons.2 ⟨fun z hz=>?_,insL_srt x h2⟩
   rcases List.mem_cons.1 ((insL_perm x r).subset hz) with rfl | hz
   ·intro h3; have:=compareC_trans y z y hy h3; rw[compareC_self] at this; omega
   ·exact h1 z hz
  ·rename_i hy;refine List.pairwise_cons.2 ⟨fun z hz=>?_,h⟩
   rcases List.mem_cons.1 hz with rfl | hz
   ·exact hy
   ·exact compareC_ntrans z y x (h1 z hz) hy
theorem sortL_srt:∀ l,SrtL (sortL l)
 | []=>List.Pairwise.nil
 | x::r=>insL_srt x (sortL_srt r)
open Go Go.Sy Go.Pl Go.Proofs Go.Shelf Go.Sort
structure LV (g:PH) where
 sv:Sv
 l:List Int
 h:ListR g l sv
 len:l.length<1099511627776
instance (g:PH):Inhabited (LV g):=⟨⟨⟨none,0,0⟩,[],Sl.nil g 1,by decide⟩⟩
def allOf (W:World):PH:=fun b=>W.heap[b]?
theorem at_all (W:World):At W (allOf W) [] W:=⟨rfl,⟨rfl,Nat.le_refl _⟩,rfl,fun _ _ h=>h,by simp,by simp,List.Pairwise.nil⟩
theorem at_grown {W w':World}(h:At W (allOf W) [] w'):∃ q os',w'=grow (W.drewN q) os':=by
 refine⟨w'.drawn - W.drawn,w'.heap.extract W.heap.size,?_⟩;have hpre:∀ k,k<W.heap.size→w'.heap[k]?=W.heap[k]?:=fun k hk=>by
  rw[h.known k W.heap[k] (by simp[allOf,hk]),Array.getElem?_eq_getElem hk]
 have hsz:W.heap.size≤w'.heap.size:=by
  rcases Nat.eq_zero_or_pos W.heap.size with h0 | h0
  ·omega
  ·have:=hpre (W.heap.size - 1) oM;rw[Array.getElem?_eq_getElem (xs:=W.heap) oM] at this;have:=(Array.getElem?_eq_some_iff.1 this).1;omega
 have hheap:w'.heap=W.heap++w'.heap.extract W.heap.size:=by
  apply Array.ext_getElem?;intro k;rw[Array.getElem?_append];split
  ·exact hpre k (by assumption)
  ·rename_i hk;rw[Array.getElem?_extract];by_cases hk2:k<w'.heap.size
   ·rw[if_pos oM]; congr 1; omega
   ·rw[if_neg oM,Array.getElem?_eq_none oM]
 obtain ⟨hp,tp,dr,osx,ou⟩:=w';have h1:=h.os; have h2:=h.tape; have h3:=h.output;simp only at h1 h2 h3 hheap;simp only[grow,World.drewN];obtain ⟨h2a,h2b⟩:=h2;subst h1; subst h2a; subst h3;congr 1;omega
def inI64 (x:Int):Prop:=-9223372036854775808≤x∧x≤9223372036854775807
theorem nodup_le {α:Type}[DecidableEq α]:∀ {l m:List α},l.Nodup→(∀ x∈l,x∈m)→l.length≤m.length
 | [],_,_,_=>Nat.zero_le _
 | x::l,m,hn,hs=>by
  obtain ⟨h1,h2⟩:=List.nodup_cons.1 hn;have hx:x∈m:=hs x (by simp);have h3:=nodup_le (m:=m.erase x) h2 (fun y hy=>by
   have hne:y≠x:=fun e=>h1 (e ▸ hy);exact (List.mem_erase_of_ne hne).2 (hs y (by simp[hy])))
  have h4:=List.length_erase_of_mem hx;have h5:=List.length_pos_of_mem hx;simp only[List.length_cons];omega
def eqL (a b:List Int):Bool:=decide (a=b)
theorem uniqGo_sub {α:Type}(eq:α→α→Bool):∀ (x:α) (l:List α),(uniqGo eq x l).Sublist l
 | _,[]=>.slnil
 | x,y::r=>by
  simp only[uniqGo];split
  ·exact (uniqGo_sub eq y r).cons y
  ·exact (uniqGo_sub eq y r).cons_cons y
theorem uniq_sub {α:Type}(eq:α→α→Bool)(l:List α):(uniq eq l).Sublist l:=by
 cases l with
 | nil=>exact .slnil
 | cons x r=>exact (uniqGo_sub eq x r).cons_cons x
def setC (s:List Int):List Int:=uniq (fun a b:Int=>decide (a=b)) (sortI s)
def badSet:List Int→Bool
 | []=>true
 | a::r=>decide (a<0)||decide (((a::r).length:Int)>9)
def addSets (all:List (List Int))(t:List Int):List (List Int):=uniq eqL (sortL (all++subsetsC t))
def simpAll:List (List Int)→List (List Int)→Option (List (List Int))
 | all,[]=>some all
 | all,s::r=>if badSet (setC s) then simpAll all r else if ((addSets all (setC s)).length:Int)>4000 then none else simpAll (addSets all (setC s)) r
def sideAt (all:List (List Int))(s:List Int)(k:Nat):List Side:=if 0<(s.eraseIdx k).length then [⟨lbL all (s.eraseIdx k)+1,signC k⟩] else []
def simpSides (all:List (List Int))(s:List Int)(j:Nat):List Side:=(List.range j).flatMap (sideAt all s)
def simpCell (all:List (List Int))(p:List Int×Nat):Cl:=⟨p.2+1,(p.1.length:Int) - 1,simpSides all p.1 p.1.length⟩
def simpCells (all:List (List Int)):List Cl:=all.zipIdx.map (simpCell all)
def simpC (l:List (List Int)):List Cl:=match simpAll [] l with
 | none=>[]
 | some all=>canonC (simpCells all)
theorem subsetsC_short {t:List Int}(h:t.length≤9):∀ x∈subsetsC t,x.length≤9:=fun x hx=>by
 obtain ⟨i,_,rfl⟩:=List.mem_map.1 hx;exact Nat.le_trans (pickB_length _ _) h
theorem addSets_mem {all:List (List Int)}{t x:List Int}(h:x∈addSets all t):x∈all∨x∈subsetsC t:=by
 have h1:=(uniq_sub eqL _).subset h;have h2:=(sortL_perm _).subset h1;exact List.mem_append.1 h2
theorem srt_mono {all:List (List Int)}(h:SrtL all)(t:List Int):∀ i j (hi:i<all.length) (hj:j<all.length),i<j→compareC all[j] t<0→compareC all[i] t<0:=fun i j hi hj hij hlt=>by
 have h1:=List.pairwise_iff_getElem.1 h i j hi hj hij
 rcases compareC_cases all[i] all[j] with h2 | h2 | h2
 ·exact compareC_trans _ _ _ h2 hlt
 ·rw[h2]; exact hlt
 ·exact absurd h2 h1
theorem simpSides_succ (all:List (List Int))(s:List Int)(j:Nat):simpSides all s (j+1)=simpSides all s j++sideAt all s j:=by
 simp[simpSides,List.range_succ]
theorem simpSides_length (all:List (List Int))(s:List Int)(j:Nat):(simpSides all s j).length≤j:=by
 induction j with
 | zero=>simp[simpSides]
 | succ j ih =>
  rw[simpSides_succ,List.length_append];have:(sideAt all s j).length≤1:=by unfold sideAt; split <;> simp
  omega
theorem simpCells_length (all:List (List Int)):(simpCells all).length=all.length:=by simp[simpCells]
theorem simpCells_get {all:List (List Int)}{k:Nat}(h:k<all.length):(simpCells all)[k]?=some (simpCell all (all[k],k)):=by
 simp[simpCells,h]
theorem simpCells_fits {all:List (List Int)}(h:all.length≤4000)(hs:∀ x∈all,x.length≤9):Fits (simpCells all):=by
 refine⟨by rw[simpCells_length]; omega,fun c hc=>?_⟩;obtain ⟨p,hp,rfl⟩:=List.mem_map.1 hc;have h1:p.1∈all:=by
  have:=List.mem_map_of_mem (f:=Prod.fst) hp;simpa using this
 have h2:=hs _ h1;have h3:=simpSides_length all p.1 p.1.length;show (simpSides all p.1 p.1.length).length<_;omega
theorem lbL_le (ls:List (List Int))(t:List Int):lbL ls t≤ls.length:=List.length_filter_le _ _
def svOf (v:Value):Sv:=match v with
 | .slice p n c=>⟨p,n,c⟩
 | _=>⟨none,0,0⟩
def CellO (c:Cl)(r:Rc):Prop:=r.id=c.id∧r.dim=c.dim∧r.sv.n=c.sides.length
def ownC (c:Cl)(r:Rc):Ent:=rowA encSide 56 (.slice r.sv.p r.sv.n r.sv.c) c.sides
def ownS:List Cl→List Rc→Own
 | c::l,r::rs=>ownC c r::ownS l rs
 | _,_=>[]
theorem ownS_append:∀ {l:List Cl} {rs:List Rc} (c:Cl) (r:Rc),l.length=rs.length→ownS (l++[c]) (rs++[r])=ownS l rs++[ownC c r]
 | [],[],_,_,_=>rfl
 | x::l,y::rs,c,r,h=>by
  simp only[List.cons_append,ownS];rw[ownS_append c r (by simpa using h)]
 | [],_::_,_,_,h=>by simp at h
 | _::_,[],_,_,h=>by simp at h
theorem freezeO {E:World}{s:Own}{w:World}:∀ {l:List Cl} {rs:List Rc} {g:PH},All2 CellO l rs→At E g (ownS l rs++s) w→∃ g',Le g g'∧At E g' s w∧All2 (CellR g') l rs
 | [],[],g,_,h=>⟨g,Le.refl g,h,trivial⟩
 | c::l,r::rs,g,h1,h=>by
  obtain ⟨g1,hl1,ha1,hs1⟩:=At.freezeRow h;obtain ⟨g2,hl2,ha2,hs2⟩:=freezeO h1.2 ha1;exact⟨g2,hl1.trans hl2,ha2,⟨h1.1.1,h1.1.2.1,SlA.mono hs1 hl2⟩,hs2⟩
 | [],_::_,_,h1,_=>h1.elim
 | _::_,[],_,h1,_=>h1.elim
theorem sideEql (x y:Side)(w:World):(binOp .eql 56 (.agg (encSide.enc x).toArray) (.agg (encSide.enc y).toArray)).run Tryz.prog w = .ok (.bool (decide (x=y))) w:=by
 have hu:Tryz.prog.underlying 56=some (.struct (Tryz.prog.fieldsOf 56)):=by kernel_rfl
 rw[run_eql_struct,run_equalIn_agg w 9999 56 _ _ hu stoodInHeld56]
 have hfs : ∃ f1 f2,(Tryz.prog.fieldsOf 56).toList = [f1,f2] ∧ f1.name ≠ "_" ∧ f2.name ≠ "_" ∧ f1.type = 3 ∧ f2.type = 3 ∧ f1.offset = 0 ∧ f2.offset = 1:=⟨_,_,rfl,by decide,by decide,rfl,rfl,rfl,rfl⟩
 obtain ⟨f1,f2,e,n1,n2,t1,t2,o1,o2⟩:=hfs;obtain ⟨a,b⟩:=x;obtain ⟨c,d⟩:=y;rw[e];have h1:=run_equalIn_int (P:=Tryz.prog) w 9998 3 .i64 .i64 a c uT3;have h2:=run_equalIn_int (P:=Tryz.prog) w 9998 3 .i64 .i64 b d uT3;simp only[Op.eqFields,n1,n2,t1,t2,o1,o2,encSide,part,ne_eq,not_false_eq_true,if_true,Sem.run_bind,iT3,Result.andThen_ok];simp[h1,h2];by_cases hac:a=c <;> by_cases hbd:b=d <;> simp[hac,hbd]
theorem SU.eqlSide {N:Nat}{f:Fr}{dst:Option Tmp}{ty:TypeId}{pos:String}{af:Array Edge}{gd:Option (Nat×Bool)}{x y:Operand}(a b:Side){U:TypeId}(hx:ev f x=some (.agg (encSide.enc a).toArray))(hy:ev f y=some (.agg (encSide.enc b).toArray)) :
  SU Tryz.prog N ⟨dst,.binOp .eql 56 x y U,ty,pos,af,gd⟩ f (.bool (decide (a=b))):=fun ac w ha=>by
 have hg:=run_eqGuard_agg (P:=Tryz.prog) w .eql 56 x y (encSide.enc a).toArray (encSide.enc b).toArray eqGuardType56;simp only[execOp,ha.ev hx,ha.ev hy,Sem.run_bind,hg,Result.andThen_ok,sideEql];rfl
def triL:List Cl:=[⟨1,0,[]⟩,⟨2,0,[]⟩,⟨3,0,[]⟩,⟨4,1,[⟨1,-1⟩,⟨2,1⟩]⟩,⟨5,1,[⟨1,-1⟩,⟨3,1⟩]⟩,⟨6,1,[⟨2,-1⟩,⟨3,1⟩]⟩,⟨7,2,[⟨4,1⟩,⟨5,-1⟩,⟨6,1⟩]⟩]
theorem sortI_id {l:List Int}(h:l.Pairwise (· ≤ ·)):sortI l=l:=by
 unfold sortI;exact List.mergeSort_of_pairwise (h.imp fun h=>by simpa using h)
theorem setC_012:setC [0,1,2]=[0,1,2]:=by
 unfold setC;rw[sortI_id dC];rfl
theorem simp_tri:simpC [[0,1,2]]=triL:=by
 simp only[simpC,simpAll,setC_012];rfl
theorem tri_check:checkC triL=(0,0):=by kernel_rfl
theorem fits_dec {l:List Cl}(h:(l.all fun c=>decide (c.sides.length<100))=true)(h2:l.length<100):Fits l:=by
 rw[List.all_eq_true] at h;exact⟨oM,fun c hc=>by have:=h c hc; simp at this; omega⟩
theorem tri_fits:Fits triL:=fits_dec dC dC
theorem All2.cons_left {α β:Type}{R:α→β→Prop}{a:α}{l:List α}{m:List β}(h:All2 R (a::l) m):∃ b m',m=b::m'∧R a b∧All2 R l m':=by
 cases m with
 | nil=>exact h.elim
 | cons b m=>exact⟨b,m,rfl,h.1,h.2⟩
theorem All2.nil_left {α β:Type}{R:α→β→Prop}{m:List β}(h:All2 R ([]:List α) m):m=[]:=by
 cases m with
 | nil=>rfl
 | cons b m=>exact h.elim
theorem cellR_form {g:PH}{c:Cl}{r:Rc}(h:CellR g c r):∃ p d,r=⟨c.id,c.dim,⟨p,c.sides.length,d⟩⟩∧SlA encSide g (.slice p c.sides.length d) c.sides:=by
 obtain ⟨i,dm,p,n,d⟩:=r;obtain ⟨h1,h2,h3⟩:=h;dsimp only at h1 h2 h3;have h4:=(SlA.cap h3).1;subst h1 h2 h4;exact⟨p,d,I,h3⟩
theorem ins_after {α:Type}{key:α→Int}{l out:List α}{x:α}{k:Nat}(hs:Srt key out)(hst:Stab key l out)(h1:∀ y∈out.take k,key y≤key x)(h2:∀ y∈out.drop k,key x<key y) :
  Srt key (out.take k++x::out.drop k)∧Stab key (l++[x]) (out.take k++x::out.drop k):=by
 have hs':Srt key (out.take k++out.drop k):=by rw[List.take_append_drop]; exact hs
 have h3:=Srt.append_iff.1 hs';refine⟨Srt.append_iff.2 ⟨h3.1,Srt.cons_iff.2 ⟨fun y hy=>Int.le_of_lt (h2 y hy),h3.2.1⟩,fun y hy z hz=>?_⟩,?_⟩
 ·rcases List.mem_cons.1 hz with rfl | hz
  ·exact h1 y hy
  ·exact h3.2.2 y hy z hz
 ·have h4:Stab key (l++[x]) (out++[x]):=hst.append (Stab.refl [x]);have h5:Stab key (out.drop k++[x]) ([x]++out.drop k):=Stab.swap (fun y hy z hz=>by simp at hz; subst hz; have:=h2 y hy; omega);have h6:=Stab.append (Stab.refl (key:=key) (out.take k)) h5;have h7:out++[x]=out.take k++(out.drop k++[x]):=by rw[← List.append_assoc,List.take_append_drop]
  rw[h7] at h4;simpa using h4.trans h6
theorem srt_drop_gt {α:Type}{key:α→Int}{out:List α}{c:Int}{k:Nat}(hs:Srt key out)(hk:k<out.length)(h:c<key out[k]):∀ y∈out.drop k,c<key y:=by
 rw[List.drop_eq_getElem_cons hk];intro y hy;have h1:Srt key (out.drop k):=List.Pairwise.sublist (List.drop_sublist k out) hs;rw[List.drop_eq_getElem_cons hk] at h1
 rcases List.mem_cons.1 hy with rfl | hy
 ·exact h
 ·have:=(Srt.cons_iff.1 h1).1 y hy;omega
theorem sides_spec (E:World)(g:PH)(s:Own)(v:Value)(l:List Side)(hv:SlA encSide g v l)(hl:l.length<1099511627776) :
  Ctr Tryz.prog E 96 #[v] g s (fun r g' s'=>s=s'∧Le g g'∧SlA encSide g' r (sortBy Side.cell l)):=by
 obtain ⟨p,c,rfl⟩:=SlA.form hv;refine Ctr.of (args:=[.slice p l.length c]) func96 I ntmps96 (bE I) ?_;refine rZ (aT I (rZ (aT I (sQ (rZ (aT I (bK ?_)))))));refine oP (ι:=PH×Value×List Side×Nat) (fun i=>[(0,.slice p l.length c),(3,i.2.1),(4,vi i.2.2.2)]) (fun i=>i.1) (fun _=>s)
  (fun i=>Le g i.1∧SlA encSide i.1 i.2.1 i.2.2.1∧i.2.2.2≤l.length∧Srt Side.cell i.2.2.1∧Stab Side.cell (l.take i.2.2.2) i.2.2.1) (fun i=>l.length - i.2.2.2)
  (g,.slice none 0 0,[],0) sB rfl rfl ⟨Le.refl g,Sl.nil g _,Nat.zero_le _,Srt.nil,Stab.refl _⟩ ?_
 rintro ⟨g1,ov,out,i⟩ ⟨hle,hov,hi,hsrt,hst⟩;dsimp only at hle hov hi hsrt hst ⊢;have hol:out.length=i:=by have:=hst.1; rw[List.length_take] at this; omega
 obtain ⟨q,d,rfl⟩:=SlA.form hov;have hqc:=(SlA.cap hov).2;refine sQ (sW I (lM I (lU (eN uT37 I) (yL I (tZ ?_)))));refine iP I (fun hlt=>?_) (fun hlt=>?_)
 ·have hil:i<l.length:=oM;have hb1:=SlA.based (hv.mono hle) oM;have hgi:l[((i:Nat):Int).toNat]?=some l[i]:=gE hil;have htk:l.take (i+1)=l.take i++[l[i]]:=tS hil;generalize l[i]=x at *;refine kP (tN (sQ (bK (rZ (aT I ?_)))));refine SC.cut (ι:=Nat) (fun k=>[(0,.slice p l.length c),(3,.slice q out.length d),(4,vi i),(5,vi k)]) (fun _=>g1) (fun _=>s) (fun k=>k≤out.length∧(∀ y∈out.take k,y.cell≤x.cell)∧∀ y∈out.drop k,x.cell<y.cell) ?_ ?_
  ·refine bK ?_;refine oP (ι:=Nat) (fun k=>[(0,.slice p l.length c),(3,.slice q out.length d),(4,vi i),(5,vi k)]) (fun _=>g1) (fun _=>s) (fun k=>k≤out.length∧∀ y∈out.take k,y.cell≤x.cell) (fun k=>out.length - k) 0
    sB rfl rfl ⟨Nat.zero_le _,by simp⟩ ?_
   rintro k ⟨hk,htake⟩;by_cases hin:(k:Int)<(out.length:Int)
   ·have hkl:k<out.length:=oM;have hb2:=SlA.based hov oM;have hd:decide ((k:Int)<(out.length:Int))=true:=decide_eq_true hin;refine sQ (sQ ?_);refine dW [] [(0,2),(1,2),(2,2),(3,2),(4,2),(5,2),(6,2),(7,2),(8,2),(9,1),(10,2),(11,2),(12,2),(13,2),(14,1),(15,2),(16,2)] Tryz.mixed kR ?_;refine yM I (yM I (pU I (eN uT37 I) (pU I (SU.eq (lS I I) (congrArg vb hd)) (yM I (yJ I (yJ I (SP.gu I (gT I I I dC) (iA uT37 zT56 I I hb2 oM sL) dC (SP.gu I (gT I I I dC) (fC uT56 I zT3 I hb2) dC ?_))))))));refine SP.gq I (gT I I I dC) (aZ (o:=0) iT3 I hov.rd (gE hkl) I) dC ?_;refine yJ I (yJ I (SP.gu I (gT I I I dC) (iA uT37 zT56 I I hb1 oM sL) dC (SP.gu I (gT I I I dC) (fC uT56 I zT3 I hb1) dC (SP.gq I (gT I I I dC) (aZ (o:=0) iT3 I (hv.mono hle).rd hgi I) dC (SP.gu I (gT I I I dC) (SU.leq I I) dC (pU I (wT I I) (pN (tN ?_))))))));refine iP I (fun hc=>?_) (fun hc=>?_)
    ·refine kP (tN (bK (rG (lM I (yD I (lA I (nL (bN ?_))))))));exact ST.again (k+1) sB I I ⟨oM,by
      rw[tS hkl];intro y hy
      rcases List.mem_append.1 hy with h | h
      ·exact htake y h
      ·simp at h; subst h; exact hc⟩ oM
    ·refine xI (tX (tX (bX ?_)));exact ST.mid k sB I I ⟨hk,htake,srt_drop_gt hsrt hkl oM⟩
   ·have hd:decide ((k:Int)<(out.length:Int))=false:=decide_eq_false hin;refine sQ (sQ ?_);refine dW [] [(0,2),(1,2),(2,2),(3,2),(4,2),(5,2),(6,2),(7,2),(8,2),(9,1),(10,2),(11,2),(12,2),(13,2),(14,1),(15,2),(16,2)] Tryz.mixed kR ?_;refine yM I (yM I (pU I (eN uT37 I) (pU I (SU.eq (lS I I) (congrArg vb hd)) (yM I (yG I (yG I (yG I (yG I (yI I (yG I (yG I (yG I (yG I (yI I (yG I (pU I (wF I I) (pN (tN (cF I (xI (tX (tX (bX ?_)))))))))))))))))))))));exact ST.mid k sB I I ⟨hk,htake,by rw[List.drop_eq_nil_of_le oM]; simp⟩
  ·rintro k ⟨hk,hk1,hk2⟩;have hnew:=ins_after hsrt hst hk1 hk2;have hc1:=SlA.cut hov (l:=k) (m:=out.length) hk (lR _);have hc2:=SlA.cut hov (l:=0) (m:=k) (Nat.zero_le _) hk;rw[tL (by rw[List.length_drop]; exact lR _)] at hc1;rw[List.drop_zero,Nat.sub_zero] at hc2;refine sQ ?_;refine dW [8] [(0,2),(1,2),(2,2),(3,1),(5,2),(6,2),(7,2),(4,0),(8,0),(9,2)] Tryz.mixed kR ?_;refine yM I (yM I (pU I (iA uT37 zT56 I I hb1 oM sL) (pK I (eA iT56 zT56 I (hv.mono hle).rd hgi) (yM I (yM I (pU I (SU.sliceL uT37 zT56 I I oM oM) (SP.o I (bS sty37 I I I (szs_mk ⟨I,trivial⟩) dC) dC (.inr iR) ?_)))))));rintro _ _ _ ⟨b36,rfl,rfl,rfl⟩;refine SP.to (fun w hw=>At.litRow (e:=encSide) (l:=[x]) (n:=0) hw I I dC) ?_;refine SP.o rfl (aQ (e:=encSide) 0 sty37 rfl rfl rfl hc1 (by rw[List.length_drop]; (first | with_reducible rfl | ((try dsimp only); (try simp only[List.length_append,List.length_cons,List.length_nil,List.length_singleton,List.length_take,List.length_drop])<;>omega))) (by rw[List.length_drop]; (first | with_reducible rfl | ((try dsimp only); (try simp only[List.length_append,List.length_cons,List.length_nil,List.length_singleton,List.length_take,List.length_drop])<;>omega)))) dC (.inl dC) ?_;rintro v40 _ _ ⟨rfl,rfl⟩;refine pU I (aS I) (pN (tN (fS fun g2 hle2 hs2=>?_)));have hrest:SlA encSide g2 v40 ([x]++out.drop k):=hs2;refine rG (lW (bS sty37 I I I (szs_mk trivial) dC) ?_);rintro _ _ _ ⟨b41,rfl,rfl,rfl⟩;refine SL.emptyRow 56 2 (some ⟨b41,0,none⟩) (lM rfl (lM rfl (lU (SU.sliceH uT37 zT56 rfl rfl oM oM) (lW (aQ (e:=encSide) (l:=[]) 0 sty37 rfl rfl rfl (hc2.mono hle2) (by rw[List.length_take]; (first | with_reducible rfl | ((try dsimp only); (try simp only[List.length_append,List.length_cons,List.length_nil,List.length_singleton,List.length_take,List.length_drop])<;>omega))) (by rw[List.length_take]; (first | with_reducible rfl | ((try dsimp only); (try simp only[List.length_append,List.length_cons,List.length_nil,List.length_singleton,List.length_take,List.length_drop])<;>omega)))) ?_))));rintro v45 _ _ ⟨rfl,rfl⟩;refine lM I (lW (aQ (e:=encSide) 0 sty37 I I I hrest lN lN) ?_);rintro v47 _ _ ⟨rfl,rfl⟩;refine lA I (nL (bN (tN (rG (lM I (yD I (lA I (nL (fT fun g3 hle3 hs3=>?_)))))))));refine dR (s':=s) uR ?_;have hres:SlA encSide g3 v47 (out.take k++x::out.drop k):=by have h:SlA encSide g3 v47 ([]++out.take k++([x]++out.drop k)):=hs3; simpa using h
   exact ST.again (g3,v47,out.take k++x::out.drop k,i+1) sB I I ⟨hle.trans (hle2.trans hle3),hres,lN,hnew.1,by dsimp only; rw[htk]; exact hnew.2⟩ lN
 ·have hii:l.take i=l:=tL oM;rw[hii] at hst;refine xI (tX (tX (bX (tN (sW I (aT I (rE ?_)))))));exact ST.ret1 (.inl I) results96 I ⟨I,hle,by rw[← eq_sortBy hsrt hst]; exact hov⟩
theorem All2.drop {α β:Type}{R:α→β→Prop}:∀ {l:List α} {m:List β} (k:Nat),All2 R l m→All2 R (l.drop k) (m.drop k)
 | _,_,0,h=>by simpa using h
 | [],[],k+1,_=>trivial
 | _::_,_::_,k+1,h=>by simpa using All2.drop k h.2
 | [],_::_,_+1,h=>h.elim
 | _::_,[],_+1,h=>h.elim
theorem All2.take {α β:Type}{R:α→β→Prop}:∀ {l:List α} {m:List β} (k:Nat),All2 R l m→All2 R (l.take k) (m.take k)
 | _,_,0,_=>by simp; trivial
 | [],[],k+1,_=>trivial
 | _::_,_::_,k+1,h=>⟨h.1,All2.take k h.2⟩
 | [],_::_,_+1,h=>h.elim
 | _::_,[],_+1,h=>h.elim
theorem Cells.cut {g:PH}{p:Option Addr}{c a b n:Nat}{l:List Cl}(h:Cells g (.slice p n c) l)(ha:a≤b)(hb:b≤l.length):Cells g (sliced p a b c 3) ((l.drop a).take (b - a)):=by
 obtain ⟨rs,h1,h2⟩:=h;have hl:=h2.length;have hn:=(SlA.cap h1).1;subst hn;exact⟨_,SlA.cut h1 ha oM,All2.take (b - a) (All2.drop a h2)⟩
theorem Cells.cap {g:PH}{p:Option Addr}{c n:Nat}{l:List Cl}(h:Cells g (.slice p n c) l):n=l.length∧l.length≤c:=by
 obtain ⟨rs,h1,h2⟩:=h;have:=SlA.cap h1;rw[h2.length];exact⟨this.1,this.2⟩
theorem canonC_alt (l:List Cl):canonC l=sortBy Cl.id (l.map normC):=by
 unfold canonC;rw[sortBy_map];rfl
theorem canonC_srt (l:List Cl):Srt Cl.id (canonC l):=by rw[canonC_alt]; exact sortBy_srt _
theorem canonC_stab (l:List Cl):Stab Cl.id (l.map normC) (canonC l):=by rw[canonC_alt]; exact sortBy_stab _
theorem Tryz.buildF54 (x y:Int)(v:Value)(hv:v.cells = #[v])(w:World):(Instr.build 54 #[(0,vi x),(1,vi y),(2,v)]).run Tryz.prog w = .ok (.agg #[vi x,vi y,v]) w:=by
 have hz:(Value.agg #[vi 0,vi 0,Value.slice none 0 0]).cells = #[vi 0,vi 0,.slice none 0 0]:=rfl;have h1:(vi x).cells = #[vi x]:=rfl;have h2:(vi y).cells = #[vi y]:=rfl;simp[Instr.build,Instr.fill,hv,hz,h1,h2]
theorem half_tdiv (n:Nat)(h:n<4611686018427387904):IntKind.i64.wrap (((n:Nat):Int).tdiv 2)=((n / 2:Nat):Int):=by
 have h1:((n:Nat):Int).tdiv 2=((n / 2:Nat):Int):=by
  rw[Int.tdiv_eq_ediv_of_nonneg oM]; simp
 rw[h1,IntWalk.i64_in _ oM]
theorem ordered_spec (E:World):∀ (n:Nat) (g:PH) (s:Own) (v:Value) (l:List Cl),l.length≤n→Cells g v l→Fits l →
  Ctr Tryz.prog E 71 #[v] g s (fun r g' s'=>s=s'∧Le g g'∧Cells g' r (canonC l)):=by
 intro n;induction n with
 | zero =>
  intro g s v l hn hv hf;have hl0:l=[]:=List.eq_nil_of_length_eq_zero oM;subst hl0;obtain ⟨p,c,rfl⟩:=hv.form;refine Ctr.of (args:=[.slice p 0 c]) func71 I ntmps71 (bE I) ?_;refine rZ (aT I (sQ (sW I (lU (eN uT27 I) (yE I (tZ ?_))))));refine iP I (fun h0=>?_) (fun h0=>?_)
  ·refine rZ (aT I (rE (tR ?_)));exact ST.ret1 (.inl I) results71 I ⟨I,Le.refl g,[],Sl.nil g _,trivial⟩
  ·exact absurd I h0
 | succ n ih =>
  intro g s v l hn hv hf;obtain ⟨rs,hrs,hall⟩:=hv;have hv:Cells g v l:=⟨rs,hrs,hall⟩;have hlen:=hall.length;have hfl:=hf.1;obtain ⟨p,c,rfl⟩:=hv.form;have hcap:=(Cells.cap hv).2;refine Ctr.of (args:=[.slice p l.length c]) func71 I ntmps71 (bE I) ?_;refine rZ (aT I (sQ (sW I (lU (eN uT27 I) (yE I (tZ ?_))))));refine iP I (fun h0=>?_) (fun h0=>?_)
  ·have hl0:l=[]:=List.eq_nil_of_length_eq_zero oM;subst hl0;refine rZ (aT I (rE (tR ?_)));exact ST.ret1 (.inl I) results71 I ⟨I,Le.refl g,[],Sl.nil g _,trivial⟩
  ·refine kP (tN (sQ (sW I (lU (eN uT27 I) (yE I (tZ ?_))))));refine iP I (fun h1=>?_) (fun h1=>?_)
   ·obtain ⟨x,hx⟩:∃ x,l=[x]:=by
     match l,h1 with
     | [x],_=>exact⟨x,rfl⟩
     | [],h=>simp at h
     | _::_::_,h=>simp at h; omega
    subst hx;obtain ⟨r,rs',rfl,hr,hn'⟩:=All2.cons_left hall;have hrs0:=All2.nil_left hn';subst hrs0;obtain ⟨rp,rd,rfl,hsd⟩:=cellR_form hr;have hb1:=hrs.based (by simp);have hxl:=hf.2 x (by simp);refine sQ ?_;refine dW [] [(0,2),(1,2),(2,2),(3,1),(4,2),(5,2),(6,2),(7,1),(8,2),(9,2),(10,2),(11,1),(12,0),(13,2),(14,0),(15,2)] Tryz.mixed kR ?_;refine yM I (pU I (iA uT27 zT54 I I hb1 dC (show (0:Int)<((1:Nat):Int) by decide)) ?_);refine pU I (fC uT54 I zT3 I hb1) (pK I (aZ (e:=encCell) (o:=0) (j:=0) (u:=vi x.id) iT3 I hrs.rd I I) (yM I (pU I (iA uT27 zT54 I I hb1 dC (show (0:Int)<((1:Nat):Int) by decide)) ?_)));refine pU I (fC uT54 I zT3 I hb1) (pK I (aZ (e:=encCell) (o:=1) (j:=0) (u:=vi x.dim) iT3 I hrs.rd I I) (yM I (pU I (iA uT27 zT54 I I hb1 dC (show (0:Int)<((1:Nat):Int) by decide)) ?_)));refine pU I (fC uT54 I zT37 I hb1) (pK I (aZ (e:=encCell) (o:=2) (j:=0) (u:=.slice rp x.sides.length rd) iT37 I hrs.rd I I) (SP.o I (SO.call call96 I (sides_spec E g _ _ x.sides hsd hxl)) dC (.inr iR) ?_));rintro v24 g1 _ ⟨rfl,hle1,hs1⟩;obtain ⟨q,d,rfl⟩:=SlA.form hs1;refine pU I (SU.build I (buildF54 _ _ _ I)) (SP.o I (bS sty27 I I I (szs_mk sB) dC) dC (.inr iR) ?_);rintro _ _ _ ⟨b26,rfl,rfl,rfl⟩;refine pU I (aS I) (pN (tN (rE (tR (ST.freeze fun g2 hle2 hb=>?_)))));exact ST.ret1 (.inl I) results71 I ⟨I,hle1.trans hle2,[⟨x.id,x.dim,⟨q,(sortBy Side.cell x.sides).length,d⟩⟩],SlA.lit hb I I,⟨⟨I,I,hs1.mono hle2⟩,trivial⟩⟩
   ·have hm1:l.length / 2<l.length:=oM;have hm0:0<l.length / 2:=oM;have hc1:=Cells.cut hv (a:=0) (b:=l.length / 2) oM oM;have hc2:=Cells.cut hv (a:=l.length / 2) (b:=l.length) oM oM;rw[List.drop_zero,Nat.sub_zero] at hc1;rw[tL (by rw[List.length_drop]; exact lR _)] at hc2;have hf1:Fits (l.take (l.length / 2)):=⟨by rw[List.length_take]; omega,fun c hc=>hf.2 c (List.mem_of_mem_take hc)⟩;have hf2:Fits (l.drop (l.length / 2)):=⟨by rw[List.length_drop]; omega,fun c hc=>hf.2 c (List.mem_of_mem_drop hc)⟩;have hca:=canonC_length (l.take (l.length / 2));have hcb:=canonC_length (l.drop (l.length / 2));have hsa:=canonC_srt (l.take (l.length / 2));have hsb:=canonC_srt (l.drop (l.length / 2));have hst:Stab Cl.id (l.map normC) (canonC (l.take (l.length / 2))++canonC (l.drop (l.length / 2))):=by
     have h2:=(canonC_stab (l.take (l.length / 2))).append (canonC_stab (l.drop (l.length / 2)));rwa [← List.map_append,List.take_append_drop] at h2
    rw[List.length_take] at hca;rw[List.length_drop] at hcb;refine kP (tN (sW I (lM I (lU (eN uT27 I) (lU (SU.eq (v':=vi ((l.length / 2:Nat):Int)) (SU.quo I I dC) (congrArg vi (half_tdiv _ oM))) (lU (SU.sliceH uT27 zT54 I I oM oM) (lW (SO.call call71 I (ih g _ _ (l.take (l.length / 2)) (by rw[List.length_take]; omega) hc1 hf1)) ?_)))))));rintro va0 g1 _ ⟨rfl,hle1,hA⟩;refine aT I (sW I (lM I (lU (eN uT27 I) (lU (SU.eq (v':=vi ((l.length / 2:Nat):Int)) (SU.quo I I dC) (congrArg vi (half_tdiv _ oM))) (lU (SU.sliceL uT27 zT54 I I oM oM) (lW (SO.call call71 I (ih g1 _ _ (l.drop (l.length / 2)) (by rw[List.length_drop]; omega) (hc2.mono hle1) hf2)) ?_))))));rintro vb0 g2 _ ⟨rfl,hle2,hB⟩;refine aT I (rZ (aT I ?_));generalize hA0:canonC (l.take (l.length / 2))=A0 at *;generalize hB0:canonC (l.drop (l.length / 2))=B0 at *;refine SC.nilRow 54 3 ?_;refine SC.cut (ι:=Value×Value×Value×List Cl×List Cl×List Cl×List Rc) (fun i=>[(3,i.1),(4,i.2.1),(5,i.2.2.1)]) (fun _=>g2) (fun i=>rowA encCell 54 i.2.2.1 i.2.2.2.2.2.2::s)
     (fun i=>Cells g2 i.1 i.2.2.2.1∧Cells g2 i.2.1 i.2.2.2.2.1∧All2 (CellR g2) i.2.2.2.2.2.1 i.2.2.2.2.2.2∧i.2.2.2.2.2.1++i.2.2.2.1++i.2.2.2.2.1=canonC l) ?_ ?_
    ·refine bK ?_;refine oP (ι:=Value×Value×Value×List Cl×List Cl×List Cl×List Cl×List Cl×List Rc) (fun i=>[(3,i.1),(4,i.2.1),(5,i.2.2.1)]) (fun _=>g2) (fun i=>rowA encCell 54 i.2.2.1 i.2.2.2.2.2.2.2.2::s)
      (fun i=>(Cells g2 i.1 i.2.2.2.2.1∧Cells g2 i.2.1 i.2.2.2.2.2.2.1)∧All2 (CellR g2) i.2.2.2.2.2.2.2.1 i.2.2.2.2.2.2.2.2∧A0=i.2.2.2.1++i.2.2.2.2.1∧B0=i.2.2.2.2.2.1++i.2.2.2.2.2.2.1∧Srt Cl.id i.2.2.2.2.2.2.2.1∧Stab Cl.id (i.2.2.2.1++i.2.2.2.2.2.1) i.2.2.2.2.2.2.2.1 ∧
       (∀ y∈i.2.2.2.2.2.2.2.1,∀ z∈i.2.2.2.2.1++i.2.2.2.2.2.2.1,y.id≤z.id)∧(∀ y∈i.2.2.2.2.2.1,∀ z∈i.2.2.2.2.1,y.id<z.id)) (fun i=>i.2.2.2.2.1.length+i.2.2.2.2.2.2.1.length)
      (va0,vb0,.slice none 0 0,[],A0,[],B0,[],[]) sB rfl rfl ⟨⟨hA.mono hle2,hB⟩,trivial,rfl,rfl,Srt.nil,Stab.refl _,by simp,by simp⟩ ?_
     rintro ⟨va,vb1,vo,A1,A2,B1,B2,out,ro⟩ ⟨⟨hva,hvb⟩,hro,hA',hB',hso,hto,hout,hlt⟩;dsimp only at hva hvb hro hA' hB' hso hto hout hlt ⊢;have hol:out.length=A1.length+B1.length:=by have:=hto.1; simpa using this
     have hrol:=hro.length;have hAl:A0.length=A1.length+A2.length:=by rw[hA']; simp
     have hBl:B0.length=B1.length+B2.length:=by rw[hB']; simp
     rw[hA'] at hsa;rw[hB'] at hsb;have hsa2:=(Srt.append_iff.1 hsa).2.1;have hsb2:=(Srt.append_iff.1 hsb).2.1;obtain ⟨pa,ca,rfl⟩:=hva.form;obtain ⟨pb,cb,rfl⟩:=hvb.form;have hcapa:=(Cells.cap hva).2;have hcapb:=(Cells.cap hvb).2;have hfin:A2=[]∨B2=[]→out++A2++B2=canonC l:=fun h=>by
      rw[canonC_alt];refine eq_sortBy ?_ ?_
      ·rw[List.append_assoc];refine Srt.append_iff.2 ⟨hso,?_,hout⟩
       rcases h with rfl | rfl
       ·simpa using hsb2
       ·simpa using hsa2
      ·refine hst.trans ?_;rw[hA',hB']
       rcases h with rfl | rfl
       ·have h2:=hto.append (Stab.refl (key:=Cl.id) B2);simpa using h2
       ·have h3:Stab Cl.id (A2++B1) (B1++A2):=Stab.swap (fun x hx y hy=>by have:=hlt y hy x hx; omega);have h4:=(Stab.refl (key:=Cl.id) A1).append h3;have h5:=hto.append (Stab.refl (key:=Cl.id) A2);simp only[List.append_nil,List.append_assoc] at h4 h5 ⊢;exact h4.trans h5
     cases A2 with
     | nil =>
      refine sQ (sW I (lU (eN uT27 I) (lU (SU.eq (v':=vb false) (gR I I) I) (lM I (yA I (yA I (yA I (yF I (tZ (cF I (xI (tX (tX (bX ?_))))))))))))));exact ST.mid (_,_,vo,[],B2,out,ro) sB I I ⟨hva,hvb,hro,hfin (.inl I)⟩
     | cons x A3 =>
      have hpa:(0:Int)<((x::A3).length:Int):=by simp
      cases B2 with
      | nil =>
       refine sQ (sW I (lU (eN uT27 I) (lU (SU.eq (v':=vb true) (gR I I) (congrArg vb (decide_eq_true hpa))) (lM I (yC I (lY I I I (eN uT27 I) (lY I I I (SU.eq (v':=vb false) (gR I I) I) (yP I (tZ (cF I (xI (tX (tX (bX ?_))))))))))))));exact ST.mid (_,_,vo,x::A3,[],out,ro) sB I I ⟨hva,hvb,hro,hfin (.inr I)⟩
      | cons y B3 =>
       have hpb:(0:Int)<((y::B3).length:Int):=by simp
       obtain ⟨ra,hra,halla⟩:=hva;obtain ⟨rb,hrb,hallb⟩:=hvb;have hva:Cells g2 _ (x::A3):=⟨ra,hra,halla⟩;have hvb:Cells g2 _ (y::B3):=⟨rb,hrb,hallb⟩;have hna:=Cells.cut hva (a:=1) (b:=(x::A3).length) (by simp) (lR _);have hnb:=Cells.cut hvb (a:=1) (b:=(y::B3).length) (by simp) (lR _);have hda:((x::A3).drop 1).take ((x::A3).length - 1)=A3:=by simp
       have hdb:((y::B3).drop 1).take ((y::B3).length - 1)=B3:=by simp
       rw[hda] at hna;rw[hdb] at hnb;obtain ⟨x',ra',rfl,hx,_⟩:=All2.cons_left halla;obtain ⟨y',rb',rfl,hy,_⟩:=All2.cons_left hallb;have hba:=hra.based (by simp);have hbb:=hrb.based (by simp);have hlen3:A3.length+1+(B3.length+1)+out.length≤l.length:=by simp only[List.length_cons] at hAl hBl; omega
       refine sQ (sW I (lU (eN uT27 I) (lU (SU.eq (v':=vb true) (gR I I) (congrArg vb (decide_eq_true hpa))) (lM I (yC I (lY I I I (eN uT27 I) (lY I I I (SU.eq (v':=vb true) (gR I I) (congrArg vb (decide_eq_true hpb))) (yP I (tZ (SC.condT I (kP (tN (bK (sQ ?_))))))))))))));refine dW [] [(0,2),(1,2),(2,2),(3,1),(4,2),(5,2),(6,2),(7,1),(8,2)] Tryz.mixed kR ?_;refine yM I (pU I (iA uT27 zT54 I I hbb dC hpb) (pU I (fC uT54 I zT3 I hbb) (pK I (aZ (e:=encCell) (o:=0) (j:=0) (u:=vi y'.id) iT3 I hrb.rd I I) (yM I (pU I (iA uT27 zT54 I I hba dC hpa) (pU I (fC uT54 I zT3 I hba) (pK I (aZ (e:=encCell) (o:=0) (j:=0) (u:=vi x'.id) iT3 I hra.rd I I) (pU I (lS I I) (pN (tN ?_))))))))));refine iP I (fun hc=>?_) (fun hc=>?_)
       ·refine sW I (lM I (lU (iA uT27 zT54 I I hbb dC hpb) (lK (eA (e:=encCell) (a:=y') (j:=0) iT54 zT54 I hrb.rd I) (lW (bS sty27 I I I (szs_mk sB) dC) ?_))));rintro _ _ _ ⟨b60,rfl,rfl,rfl⟩;refine lW (aP (e:=encCell) 0 y' sty27 I I I I I oM oM) ?_;rintro v61 _ _ ⟨rfl,rfl⟩;refine aT I (rG (lM I (lU (SU.sliceL uT27 zT54 I I dC (by simp only[List.length_cons]; omega)) ?_)));refine lA I (nL (bN ?_));rw[hx.1,hy.1] at hc;refine ST.again (_,_,v61,A1,x::A3,B1++[y],B3,out++[y],ro++[y']) sB I I ⟨⟨hva,hnb⟩,hro.append ⟨hy,trivial⟩,hA',by rw[hB']; simp,?_,?_,?_,?_⟩ lN
        ·refine Srt.append_iff.2 ⟨hso,Srt.one y,fun a ha b hb=>?_⟩;simp at hb; subst hb; exact hout a ha b (by simp)
        ·have h2:=hto.append (Stab.refl (key:=Cl.id) [y]);simpa using h2
        ·intro a ha b hb;dsimp only at ha hb
         rcases List.mem_append.1 ha with ha | ha
         ·refine hout a ha b ?_;simp at hb ⊢
          rcases hb with h | h | h
          ·exact .inl h
          ·exact .inr (.inl h)
          ·exact .inr (.inr (.inr h))
         ·simp at ha; subst ha
          rcases List.mem_append.1 hb with hb | hb
          ·rcases List.mem_cons.1 hb with rfl | hb
           ·omega
           ·have:=(Srt.cons_iff.1 hsa2).1 b hb; omega
          ·exact (Srt.cons_iff.1 hsb2).1 b hb
        ·intro a ha b hb;dsimp only at ha hb
         rcases List.mem_append.1 ha with ha | ha
         ·exact hlt a ha b hb
         ·simp at ha; subst ha
          rcases List.mem_cons.1 hb with rfl | hb
          ·omega
          ·have:=(Srt.cons_iff.1 hsa2).1 b hb; omega
       ·refine sW I (lM I (lU (iA uT27 zT54 I I hba dC hpa) (lK (eA (e:=encCell) (a:=x') (j:=0) iT54 zT54 I hra.rd I) (lW (bS sty27 I I I (szs_mk sB) dC) ?_))));rintro _ _ _ ⟨b68,rfl,rfl,rfl⟩;refine lW (aP (e:=encCell) 0 x' sty27 I I I I I oM oM) ?_;rintro v69 _ _ ⟨rfl,rfl⟩;refine aT I (rG (lM I (lU (SU.sliceL uT27 zT54 I I dC (by simp only[List.length_cons]; omega)) ?_)));refine lA I (nL (bN ?_));rw[hx.1,hy.1] at hc;refine ST.again (_,_,v69,A1++[x],A3,B1,y::B3,out++[x],ro++[x']) sB I I ⟨⟨hna,hvb⟩,hro.append ⟨hx,trivial⟩,by rw[hA']; simp,hB',?_,?_,?_,?_⟩ lN
        ·refine Srt.append_iff.2 ⟨hso,Srt.one x,fun a ha b hb=>?_⟩;simp at hb; subst hb; exact hout a ha b (by simp)
        ·have h2:Stab Cl.id ([x]++B1) (B1++[x]):=Stab.swap (fun a ha b hb=>by simp at ha; subst ha; have:=hlt b hb a (by simp); omega);have h3:=(Stab.refl (key:=Cl.id) A1).append h2;have h4:=hto.append (Stab.refl (key:=Cl.id) [x]);dsimp only;simp only[List.append_assoc] at h3 h4 ⊢;exact h3.trans h4
        ·intro a ha b hb;dsimp only at ha hb
         rcases List.mem_append.1 ha with ha | ha
         ·refine hout a ha b ?_;simp at hb ⊢
          rcases hb with h | h | h
          ·exact .inr (.inl h)
          ·exact .inr (.inr (.inl h))
          ·exact .inr (.inr (.inr h))
         ·simp at ha; subst ha
          rcases List.mem_append.1 hb with hb | hb
          ·exact (Srt.cons_iff.1 hsa2).1 b hb
          ·rcases List.mem_cons.1 hb with rfl | hb
           ·omega
           ·have:=(Srt.cons_iff.1 hsb2).1 b hb; omega
        ·intro a ha b hb;exact hlt a ha b (by simp[hb])
    ·rintro ⟨va,vb1,vo,A2,B2,out,ro⟩ ⟨hva,hvb,hro,hres⟩;dsimp only at hva hvb hro hres ⊢;obtain ⟨ra,hra,halla⟩:=hva;obtain ⟨rb,hrb,hallb⟩:=hvb;have hl1:=congrArg List.length hres;rw[canonC_length] at hl1;simp only[List.length_append] at hl1;have e1:=hro.length;have e2:=halla.length;have e3:=hallb.length;refine sW I (lM I (lW (aQ (e:=encCell) 0 sty27 I I I hra oM oM) ?_));rintro v74 _ _ ⟨rfl,rfl⟩;refine lM I (lW (aQ (e:=encCell) 0 sty27 I I I hrb lN lN) ?_);rintro v76 _ _ ⟨rfl,rfl⟩;refine aT I (rE (fT fun g3 hle3 hs3=>?_));exact ST.ret1 (.inl I) results71 I ⟨I,hle1.trans (hle2.trans hle3),ro++ra++rb,hs3,by rw[← hres]; exact (((hro.append halla).append hallb).mono fun _ _=>CellR.mono hle3)⟩
theorem foldl_ids (l:List Cl):∀ (acc:List Cl) (c:Cl),(c∈acc∨c∈l)→∃ x∈l.foldl addC acc,x.id=c.id:=by
 induction l with
 | nil=>intro acc c h; rcases h with h | h; exact⟨c,h,rfl⟩; simp at h
 | cons y r ih =>
  intro acc c h;simp only[List.foldl_cons]
  rcases h with h | h
  ·exact ih (addC acc y) c (.inl (by unfold addC; split; exact h; simp[h]))
  ·rcases List.mem_cons.1 h with rfl | h
   ·by_cases ha:acc.any (fun x=>x.id == c.id)=true
    ·rw[addC_old ha];rw[List.any_eq_true] at ha;obtain ⟨z,hz,he⟩:=ha;obtain ⟨x,hx,hxe⟩:=ih acc z (.inl hz);exact⟨x,hx,by rw[hxe]; simpa using he⟩
    ·have ha':acc.any (fun x=>x.id == c.id)=false:=by simpa using ha
     rw[addC_new ha'];exact ih _ c (.inl (by simp))
   ·exact ih _ c (.inr h)
theorem srt_any {L:List Cl}(hs:Srt Cl.id L){k:Nat}(h0:0<k)(hk:k<L.length):((L.take k).foldl addC []).any (fun x=>x.id == L[k].id)=decide (L[k].id=(L[k - 1]'oM).id):=by
 rw[Bool.eq_iff_iff,List.any_eq_true,decide_eq_true_iff];constructor
 ·rintro ⟨x,hx,he⟩;have hm:=(mem_foldl _ [] x hx).resolve_left (by simp);obtain ⟨j,hj,rfl⟩:=List.getElem_of_mem hm;rw[List.length_take] at hj;rw[List.getElem_take] at he;have he':(L[j]'oM).id=L[k].id:=by simpa using he
  rcases Nat.lt_or_ge j (k - 1) with h | h
  ·have h1:=List.pairwise_iff_getElem.1 hs j (k - 1) oM oM h;have h2:=List.pairwise_iff_getElem.1 hs (k - 1) k oM hk oM;omega
  ·have:j=k - 1:=oM;subst this;exact he'.symm
 ·intro he;have hm:(L[k - 1]'oM)∈L.take k:=by
   have:k - 1<(L.take k).length:=by rw[List.length_take]; omega
   have h2:=gM this;rwa [List.getElem_take] at h2
  obtain ⟨x,hx,hxe⟩:=foldl_ids (L.take k) [] _ (.inr hm);exact⟨x,hx,by rw[hxe,← he]; simp⟩
theorem refCells_spec (E:World)(g:PH)(s:Own)(v:Value)(l:List Cl)(hv:Cells g v l)(hf:Fits l) :
  Ctr Tryz.prog E 42 #[.agg #[v]] g s (fun r g' s'=>s=s'∧Le g g'∧Cells g' r (tabC l)):=by
 obtain ⟨p,c,rfl⟩:=hv.form;have hsrt:=canonC_srt l;have hcl:=canonC_length l;have hfl:=hf.1;refine Ctr.of (args:=[.agg #[.slice p l.length c]]) func42 I ntmps42 (bE I) ?_;refine rZ (bW (bO I) fun b1=>?_);refine aT I (rZ (lU (fA uT29 I zT27 I) (lK (qL iT27 I (cO 0 I I)) (lW (SO.call call71 I (ordered_spec E l.length g _ _ l (lR _) hv hf)) ?_))));rintro v8 g1 _ ⟨rfl,hle,h8⟩;obtain ⟨rs,hrs,hall⟩:=h8;have hrl:=hall.length;obtain ⟨q,d,rfl⟩:=hrs.form;refine aT I (rZ (aT I (sQ (rZ (aT I (bK (SC.nilRow 54 3 ?_)))))));refine oP (ι:=Value×Nat×List Rc) (fun i=>[(3,.slice q rs.length d),(4,i.1),(5,vi i.2.1)]) (fun _=>g1) (fun i=>rowA encCell 54 i.1 i.2.2::pt b1 (.cells #[.slice p l.length c] 29 (0,0))::s)
  (fun i=>i.2.1≤rs.length∧All2 (CellR g1) (((canonC l).take i.2.1).foldl addC []) i.2.2) (fun i=>rs.length - i.2.1) (.slice none 0 0,0,[]) sB rfl rfl ⟨Nat.zero_le _,by simp[All2]⟩ ?_
 rintro ⟨ov,k,acc⟩ ⟨hk,hacc⟩;dsimp only at hk hacc ⊢;have hal:=hacc.length;have hal2:=foldl_add_length ((canonC l).take k) [];simp only[List.length_take,List.length_nil] at hal2;refine sQ (sW I (lM I (lU (eN uT27 I) (yL I (tZ ?_)))));refine iP I (fun hlt=>?_) (fun hlt=>?_)
 ·have hkr:k<rs.length:=oM;have hkl:k<(canonC l).length:=oM;have hb1:=hrs.based oM;have hcr:=hall.get (gE hkl) (gE hkr);have htake:((canonC l).take (k+1)).foldl addC []=addC (((canonC l).take k).foldl addC []) (canonC l)[k]:=by
   rw[tS hkl,List.foldl_append]; rfl
  have hgx:rs[((k:Nat):Int).toNat]?=some rs[k]:=gE hkr;have hnew:addC (((canonC l).take k).foldl addC []) (canonC l)[k]=((canonC l).take k).foldl addC []++[(canonC l)[k]]→All2 (CellR g1) (((canonC l).take (k+1)).foldl addC []) (acc++[rs[k]]):=fun h=>by
   rw[htake,h]; exact hacc.append ⟨hcr,trivial⟩
  by_cases hk0:k=0
  ·subst hk0;refine kP (tN (sQ (bK (sQ ?_))));refine dW [] [(0,2),(1,2),(2,2),(3,2),(4,2),(5,2),(6,2),(7,1),(8,2),(9,2),(10,2),(11,2),(12,2),(13,1),(14,2),(15,2)] Tryz.mixed kR ?_;refine yM I (pU I (SU.eq (v':=vb true) (eQ I I) I) (yM I (yG I (yG I (yG I (yG I (yI I (yG I (yG I (yG I (yG I (yG I (yI I (yG I (pU I (wT I I) (pN (tN (SC.condT I (rG (lM I (lM I (lM I (lU (iA uT27 zT54 I I hb1 oM sL) (lK (eA iT54 zT54 I hrs.rd hgx) (lW (bS sty27 I I I (szs_mk sB) dC) ?_)))))))))))))))))))))))));rintro _ _ _ ⟨b36,rfl,rfl,rfl⟩;refine lW (aP (e:=encCell) 0 rs[0] sty27 I I I I I oM oM) ?_;rintro v37 _ _ ⟨rfl,rfl⟩;refine lA I (nL (bN (tN (rG (lM I (yD I (lA I (nL ?_))))))));exact ST.again (v37,0+1,acc++[rs[0]]) sB I I ⟨lN,hnew (addC_new (by simp))⟩ lN
  ·have hk1:k - 1<rs.length:=oM;have hk1l:k - 1<(canonC l).length:=oM;have hany:=srt_any hsrt (by omega:0<k) hkl;have hcr1:=hall.get (gE hk1l) (gE hk1);have hgy:rs[((k:Int) - 1).toNat]?=some rs[k - 1]:=by rw[show ((k:Int) - 1).toNat=k - 1 by omega]; exact gE hk1
   refine kP (tN (sQ (bK (sQ ?_))));refine dW [] [(0,2),(1,2),(2,2),(3,2),(4,2),(5,2),(6,2),(7,1),(8,2),(9,2),(10,2),(11,2),(12,2),(13,1),(14,2),(15,2)] Tryz.mixed kR ?_;refine yM I (pU I (SU.eq (v':=vb false) (eQ I I) (congrArg vb (decide_eq_false oM))) (yM I (yJ I (yJ I (SP.gu I (gT I I I dC) (iA uT27 zT54 I I hb1 oM sL) dC (SP.gu I (gT I I I dC) (fC uT54 I zT3 I hb1) dC (SP.gq I (gT I I I dC) (aZ (e:=encCell) (o:=0) (u:=vi rs[k].id) iT3 I hrs.rd hgx I) dC (yJ I (yJ I (SP.gu I (gT I I I dC) (sU I I oM) dC (SP.gu I (gT I I I dC) (iA uT27 zT54 I I hb1 oM sL) dC (SP.gu I (gT I I I dC) (fC uT54 I zT3 I hb1) dC (SP.gq I (gT I I I dC) (aZ (e:=encCell) (o:=0) (u:=vi rs[k - 1].id) iT3 I hrs.rd hgy I) dC (SP.gu I (gT I I I dC) (nQ I I) dC (pU I (wF I I) (pN (tN ?_)))))))))))))))));refine iP I (fun hne=>?_) (fun hne=>?_)
   ·refine rG (lM I (lM I (lM I (lU (iA uT27 zT54 I I hb1 oM sL) (lK (eA iT54 zT54 I hrs.rd hgx) (lW (bS sty27 I I I (szs_mk sB) dC) ?_))))));rintro _ _ _ ⟨b36,rfl,rfl,rfl⟩;refine lW (aP (e:=encCell) 0 rs[k] sty27 I I I I I oM oM) ?_;rintro v37 _ _ ⟨rfl,rfl⟩;refine lA I (nL (bN (tN (rG (lM I (yD I (lA I (nL ?_))))))));rw[hcr.1,hcr1.1] at hne;exact ST.again (v37,k+1,acc++[rs[k]]) sB I I ⟨lN,hnew (addC_new (by rw[hany]; exact decide_eq_false hne))⟩ lN
   ·refine kP (bN (tN (rG (lM I (yD I (lA I (nL ?_)))))));rw[hcr.1,hcr1.1] at hne;exact ST.again (ov,k+1,acc) sB I I ⟨lN,by dsimp only; rw[htake,addC_old (by rw[hany]; exact decide_eq_true (Decidable.of_not_not hne))]; exact hacc⟩ lN
 ·have hkk:(canonC l).take k=canonC l:=tL oM;rw[hkk] at hacc;refine xI (tX (tX (bX (tN (sW I (aT I (rE (fT fun g2 hle2 hs2=>?_))))))));refine dR (s':=s) uR ?_;exact ST.ret1 (.inl I) results42 I ⟨I,hle.trans hle2,acc,hs2,hacc.mono fun _ _=>CellR.mono hle2⟩
def atC (l:List Cl)(id:Int):Int:=if (l.map Cl.id).contains id then lbI (l.map Cl.id) id else -1
theorem at_spec (E:World)(g:PH)(s:Own)(v:Value)(l:List Cl)(id:Int)(hv:Cells g v l)(hl:l.length<1099511627776)(hs:(l.map Cl.id).Pairwise (· ≤ ·)) :
  Ctr Tryz.prog E 62 #[v,vi id] g s (fun r g' s'=>r=vi (atC l id)∧g=g'∧s=s'):=by
 obtain ⟨rs,hrs,hall⟩:=hv;have hrl:=hall.length;obtain ⟨p,c,rfl⟩:=hrs.form;have hids:=all2_ids hall;have hml:(l.map Cl.id).length=l.length:=by simp
 have hri:∀ k (h:k<(l.map Cl.id).length) (h2:k<rs.length),(l.map Cl.id)[k]=rs[k].id:=fun k h h2=>by simp only[hids]; simp
 unfold atC;refine Ctr.of (args:=[.slice p rs.length c,vi id]) func62 I ntmps62 (bE I) ?_;refine rZ (aT I (rZ (aT I (sW I (lU (eN uT27 I) (aT I ?_))))));generalize l.map Cl.id=L at *;refine SC.cut (ι:=Nat) (fun i=>[(0,.slice p rs.length c),(1,vi id),(5,vi i)]) (fun _=>g) (fun _=>s) (fun i=>i≤L.length∧(∀ k (h:k<L.length),k<i→L[k]<id)∧∀ k (h:k<L.length),i≤k→id≤L[k]) ?_ ?_
 ·refine bK ?_;refine oP (ι:=Nat×Nat) (fun q=>[(0,.slice p rs.length c),(1,vi id),(5,vi q.1),(6,vi q.2)]) (fun _=>g) (fun _=>s)
   (fun q=>q.1≤q.2∧q.2≤L.length∧(∀ k (h:k<L.length),k<q.1→L[k]<id)∧∀ k (h:k<L.length),q.2≤k→id≤L[k]) (fun q=>q.2 - q.1) (0,L.length)
   ⟨rfl,rfl,rfl,vi_eq oM,trivial⟩ rfl rfl ⟨Nat.zero_le _,lR _,fun k _ h=>absurd h oM,fun k h1 h2=>absurd h1 (by dsimp only at h2; omega)⟩ ?_
  rintro ⟨i,j⟩ ⟨hij,hj,hlo,hhi⟩;dsimp only at hij hj hlo hhi ⊢;refine sQ (sW I (lM I (yL I (tZ ?_))));refine iP I (fun hlt=>?_) (fun hlt=>?_)
  ·have hb1:=hrs.based oM;have hml2:(i+j) / 2<L.length:=oM;have hmr:(i+j) / 2<rs.length:=oM;have hmx:rs[((((i+j) / 2:Nat):Int)).toNat]?=some rs[(i+j) / 2]:=gE hmr;have hmi:=hri _ hml2 hmr;refine kP (tN (bK (sW I (lM I (yD I (lU (SU.eq (v':=vi (((i+j) / 2:Nat):Int)) (SU.quo I I dC) (congrArg vi (by rw[← Int.natCast_add]; exact half_tdiv _ oM))) ?_))))));refine aT I (sW I (lM I (lU (iA uT27 zT54 I I hb1 oM sL) (lU (fC uT54 I zT3 I hb1) (lK (aZ (e:=encCell) (o:=0) (u:=vi rs[(i+j) / 2].id) iT3 I hrs.rd hmx I) (lM I (yL I (tZ ?_))))))));refine iP I (fun hc=>?_) (fun hc=>?_)
   ·refine rG (lM I (yD I (lA I (nL (bN ?_)))));refine ST.again ((i+j) / 2+1,j) sB I I ⟨lN,hj,fun k hk h=>?_,hhi⟩ lN;dsimp only at h;rw[← hmi] at hc
    rcases Nat.eq_or_lt_of_le (show k≤(i+j) / 2 by omega) with rfl | h'
    ·exact hc
    ·have:=List.pairwise_iff_getElem.1 hs k ((i+j) / 2) hk hml2 h';omega
   ·refine rG (lM I (lA I (nL (bN ?_))));refine ST.again (i,(i+j) / 2) sB I I ⟨lN,lN,hlo,fun k hk h=>?_⟩ lN;dsimp only at h;rw[← hmi] at hc
    rcases Nat.eq_or_lt_of_le (show (i+j) / 2≤k by omega) with h' | h'
    ·subst h'; omega
    ·have:=List.pairwise_iff_getElem.1 hs ((i+j) / 2) k hml2 hk h';omega
  ·have hie:i=j:=oM;subst hie;refine xI (tX (tX (bX ?_)));exact ST.mid i sB I I ⟨hj,hlo,hhi⟩
 ·rintro i ⟨hj,hlo,hhi⟩;have hlb:=lb_eq hj hlo hhi;by_cases hin:(i:Int)<(rs.length:Int)
  ·have hir:i<rs.length:=oM;have hil:i<L.length:=oM;have hb1:=hrs.based oM;have hmx:rs[((i:Nat):Int).toNat]?=some rs[i]:=gE hir;have hmi:=hri _ hil hir;have hfnd:=found_eq hs hlo hhi hil;refine sQ (sW I (lM I (lU (eN uT27 I) (lU (SU.eq (v':=vb true) (lS I I) (congrArg vb (decide_eq_true hin))) (lM I (yC I (yC I (lY I I I (iA uT27 zT54 I I hb1 oM sL) (lY I I I (fC uT54 I zT3 I hb1) (SL.gq (gT I I I dC) (aZ (e:=encCell) (o:=0) (u:=vi rs[i].id) iT3 I hrs.rd hmx I) dC (yC I (lY I I I (eQ I I) (yP I (tZ ?_))))))))))))));refine iP I (fun hc=>?_) (fun hc=>?_)
   ·refine sW I (aT I (rE (tR ?_)));rw[← hmi] at hc;exact ST.ret1 (.inl I) results62 I ⟨by rw[← hfnd,decide_eq_true hc,if_pos I,hlb],I,I⟩
   ·refine kP (tN (rZ (aT I (rE ?_))));rw[← hmi] at hc;exact ST.ret1 (.inl rfl) results62 rfl ⟨by rw[← hfnd,decide_eq_false hc]; rfl,rfl,rfl⟩
  ·have hnf:=notFound hlo oM;refine sQ (sW I (lM I (lU (eN uT27 I) (lU (SU.eq (v':=vb false) (lS I I) (congrArg vb (decide_eq_false hin))) (lM I (yA I (yA I (yA I (yA I (yA I (yA I (yA I (yF I (tZ (cF I (kP (tN (rZ (aT I (rE ?_))))))))))))))))))));exact ST.ret1 (.inl rfl) results62 rfl ⟨by rw[hnf]; rfl,rfl,rfl⟩
theorem lbI_split {l:List Int}(hs:l.Pairwise (· ≤ ·))(x:Int):(∀ k (h:k<l.length),k<lbI l x→l[k]<x)∧(∀ k (h:k<l.length),lbI l x≤k→x≤l[k]):=by
 induction l with
 | nil=>exact⟨fun k h=>absurd h (by simp),fun k h=>absurd h (by simp)⟩
 | cons a r ih =>
  obtain ⟨h1,h2⟩:=List.pairwise_cons.1 hs;obtain ⟨i1,i2⟩:=ih h2;by_cases ha:a<x
  ·have hl:lbI (a::r) x=lbI r x+1:=by simp[lbI,ha]
   rw[hl];refine⟨fun k h hk=>?_,fun k h hk=>?_⟩
   ·cases k with
    | zero=>exact ha
    | succ k=>exact i1 k (by simpa using h) oM
   ·cases k with
    | zero=>omega
    | succ k=>exact i2 k (by simpa using h) oM
  ·have hz:lbI (a::r) x=0:=by
    unfold lbI;rw[List.length_eq_zero_iff,List.filter_eq_nil_iff];intro y hy
    rcases List.mem_cons.1 hy with rfl | hy
    ·simpa using Int.not_lt.1 ha
    ·have:=h1 y hy; simp; omega
   rw[hz];refine⟨fun k h hk=>absurd hk oM,fun k h _=>?_⟩;cases k with
   | zero=>exact Int.not_lt.1 ha
   | succ k =>
    have hk':k<r.length:=by simpa using h
    have:=h1 r[k] (gM hk');simp;omega
theorem at_find {tl:List Cl}(hs:(tl.map Cl.id).Pairwise (· ≤ ·))(id:Int):(findT tl id=none∧atC tl id = -1)∨∃ c k,findT tl id=some c∧atC tl id=((k:Nat):Int)∧tl[k]?=some c:=by
 obtain ⟨h1,h2⟩:=lbI_split hs id;by_cases hc:(tl.map Cl.id).contains id=true
 ·right;have hm:id∈tl.map Cl.id:=by simpa using hc
  obtain ⟨c0,hc0,e0⟩:=List.mem_map.1 hm;cases hf:findT tl id with
  | none =>
   have:=List.find?_eq_none.1 hf c0 hc0;simp[e0] at this
  | some c =>
   have hi:lbI (tl.map Cl.id) id<tl.length:=by
    rcases Nat.lt_or_ge (lbI (tl.map Cl.id) id) tl.length with h | h
    ·exact h
    ·obtain ⟨j,hj,rfl⟩:=List.getElem_of_mem hc0;have:=h1 j (by simpa using hj) oM;simp at this;omega
   refine⟨c,lbI (tl.map Cl.id) id,I,by unfold atC; rw[if_pos hc],?_⟩;rw[gE hi];have hge:=h2 _ (by simpa using hi) (lR _);have hid:tl[lbI (tl.map Cl.id) id].id=id:=by
    obtain ⟨j,hj,rfl⟩:=List.getElem_of_mem hc0;have hji:lbI (tl.map Cl.id) id≤j:=by
     rcases Nat.lt_or_ge j (lbI (tl.map Cl.id) id) with h | h
     ·have:=h1 j (by simpa using hj) h; simp at this; omega
     ·exact h
    rcases Nat.eq_or_lt_of_le hji with h | h
    ·simp only[h]; exact e0
    ·have h3:=List.pairwise_iff_getElem.1 hs _ j (by simpa using hi) (by simpa using hj) h;simp at h3 hge;omega
   unfold findT at hf;rw[List.find?_eq_some_iff_getElem] at hf;obtain ⟨hp,j,hj,ej,hlt⟩:=hf;have hp':c.id=id:=by simpa using hp
   congr 1;rw[← ej];have hji:j=lbI (tl.map Cl.id) id:=by
    rcases Nat.lt_trichotomy j (lbI (tl.map Cl.id) id) with h | h | h
    ·have:=h1 j (by simpa using hj) h; simp[ej,hp'] at this
    ·exact h
    ·have:=hlt _ h; simp[hid] at this
   simp only[hji]
 ·left;have hn:id ∉ tl.map Cl.id:=by simpa using hc
  refine⟨?_,by unfold atC; rw[if_neg hc]⟩;unfold findT;rw[List.find?_eq_none];intro x hx;simp;exact fun e=>hn (List.mem_map.2 ⟨x,hx,e⟩)
structure En where
 id:Int
 sum:Int
 many:Int
 fst:Nat
theorem foldl_strict:∀ {L acc:List Cl},(acc++L).Pairwise (fun a b=>a.id<b.id)→L.foldl addC acc=acc++L
 | [],acc,_=>by simp
 | x::r,acc,h=>by
  have h1:acc.any (fun y=>y.id == x.id)=false:=by
   rw[List.any_eq_false];intro y hy;have:=(List.pairwise_append.1 h).2.2 y hy x (by simp);simp;omega
  rw[List.foldl_cons,addC_new h1,foldl_strict (by simpa using h)];simp
theorem tabC_strict {l:List Cl}(h:(canonC l).Pairwise fun a b=>a.id<b.id):tabC l=canonC l:=by
 unfold tabC;rw[foldl_strict (by simpa using h)];rfl
end Go.Proofs.YtmmghffoakhheaaGreatDoor
