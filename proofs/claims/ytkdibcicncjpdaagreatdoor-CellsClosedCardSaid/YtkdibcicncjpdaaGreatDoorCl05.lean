/- Aro Chk Bin Pro1 Pro Cpy Cmp -/
import Derived.Test.YtkdibcicncjpdaaGreatDoorCl04
import Derived.Test.YtkdibcicncjpdaaGreatDoorCl03
set_option linter.unusedSimpArgs false
set_option linter.unusedVariables false
namespace Go.Proofs.YtkdibcicncjpdaaGreatDoor
open _root_.Go.Proofs.Tryz _root_.Go.Proofs.YtkdibcicncjpdaaGreatDoor.Tryz
open Go Go.Sy Go.Pl Go.Proofs
set_option maxRecDepth 100000
def sidesOf (tl : List Cl) (x : Side) : List Side:=((findT tl x.cell).getD zeroC).sides
def stepZ (x : Side) (zl : List (Int × Int)) (r : Side) : List (Int × Int):=addZ zl r.cell (x.sign * r.sign)
def stepL (i : Int) (ml : List (Int × List Int)) (r : Side) : List (Int × List Int):=addL ml r.cell i
def sumsC (tl : List Cl) (l : List Side) : List (Int × Int):=l.foldl (fun zl x=>(sidesOf tl x).foldl (stepZ x) zl) []
def metC (tl : List Cl) (l : List Side) : List (Int × List Int):=l.zipIdx.foldl (fun ml p=>(sidesOf tl p.1).foldl (stepL p.2) ml) []
def joinStep (jl : List (Int × List Int)) (p : Int × List Int) : List (Int × List Int):=match p.2 with
 | [a,b]=>addL (addL jl a b) b a
 | _=>jl
def joinC (ml : List (Int × List Int)) : List (Int × List Int):=ml.foldl joinStep []
def seenC (jl : List (Int × List Int)) : List Int:=dfs (adjJ jl) (jl.length + 1) 0 []
def aroundC (tl : List Cl) (c : Cl) : Int :=
 if (sumsC tl c.sides).any (fun p=>decide (p.2 ≠ 0)) then 24
 else if (metC tl c.sides).any (fun p=>decide ((p.2.length : Int) ≠ 2)) then 25
 else if ((seenC (joinC (metC tl c.sides))).length : Int) ≠ c.sides.length then 25 else 0
def AOk (tl : List Cl) (c : Cl) : Prop:=c.sides.length ≤ 64 ∧ (∀ x ∈ c.sides,x.sign = 1 ∨ x.sign = -1) ∧ ∀ x ∈ c.sides,(sidesOf tl x).length ≤ 64 ∧ ∀ r ∈ sidesOf tl x,r.sign = 1 ∨ r.sign = -1
theorem sumsC_succ {tl : List Cl} {l : List Side} {x : Side} : sumsC tl (l ++ [x]) = (sidesOf tl x).foldl (stepZ x) (sumsC tl l):=by
 simp [sumsC,List.foldl_append]
theorem metC_succ {tl : List Cl} {l : List Side} {x : Side} : metC tl (l ++ [x]) = (sidesOf tl x).foldl (stepL l.length) (metC tl l):=by
 simp [metC,List.zipIdx_append,List.foldl_append]
theorem sign_mul {a b : Int} (ha : a = 1 ∨ a = -1) (hb : b = 1 ∨ b = -1) : a * b = 1 ∨ a * b = -1:=by
 rcases ha with rfl | rfl <;> rcases hb with rfl | rfl <;> decide
theorem addL_keys (ml : List (Int × List Int)) (k x : Int) : (addL ml k x).map Prod.fst = if ml.any (fun p=>decide (p.1 = k)) then ml.map Prod.fst else ml.map Prod.fst ++ [k]:=by
 induction ml with
 | nil=>rfl
 | cons p r ih =>
  obtain ⟨a,l⟩:=p
  simp only [addL]
  by_cases h : k = a
  ·subst h; simp
  ·have h' : ¬ a = k:=fun e=>h e.symm
   rw [if_neg h]
   simp only [List.map_cons,ih,List.any_cons,h',decide_false,Bool.false_or]
   split <;> simp
theorem addL_nodup {ml : List (Int × List Int)} (h : (ml.map Prod.fst).Nodup) (k x : Int) : ((addL ml k x).map Prod.fst).Nodup:=by
 rw [addL_keys]
 split
 ·exact h
 ·rename_i hk
  rw [List.nodup_append]
  refine ⟨h,by simp,fun a ha b hb e=>hk ?_⟩
  simp at hb
  subst hb
  obtain ⟨p,hp,hpe⟩:=List.mem_map.1 ha
  rw [List.any_eq_true]
  exact ⟨p,hp,by simp [hpe,e]⟩
theorem metC_nodup (tl : List Cl) (l : List Side) : ((metC tl l).map Prod.fst).Nodup:=by
 unfold metC
 have h2 : ∀ (q : List (Side × Nat)) (ml : List (Int × List Int)),(ml.map Prod.fst).Nodup → ((q.foldl (fun ml p=>(sidesOf tl p.1).foldl (stepL p.2) ml) ml).map Prod.fst).Nodup:=by
  intro q
  induction q with
  | nil=>intro ml h; exact h
  | cons p t ih =>
   intro ml h
   refine ih _ ?_
   have h1 : ∀ (q : List Side) (ml : List (Int × List Int)),(ml.map Prod.fst).Nodup → ((q.foldl (stepL p.2) ml).map Prod.fst).Nodup:=by
    intro q
    induction q with
    | nil=>intro ml h; exact h
    | cons r t ih=>intro ml h; exact ih _ (addL_nodup h _ _)
   exact h1 _ _ h
 exact h2 _ _ (by simp)
theorem addL_length (ml : List (Int × List Int)) (k x : Int) : (addL ml k x).length ≤ ml.length + 1:=by
 induction ml with
 | nil=>simp [addL]
 | cons p r ih =>
  obtain ⟨a,l⟩:=p
  simp only [addL]
  split <;> simp <;> omega
theorem metC_length {tl : List Cl} {l : List Side} (h : ∀ x ∈ l,(sidesOf tl x).length ≤ 64) : (metC tl l).length ≤ 64 * l.length:=by
 have h2 : ∀ (q : List (Side × Nat)) (ml : List (Int × List Int)),(∀ p ∈ q,(sidesOf tl p.1).length ≤ 64) → (q.foldl (fun ml p=>(sidesOf tl p.1).foldl (stepL p.2) ml) ml).length ≤ ml.length + 64 * q.length:=by
  intro q
  induction q with
  | nil=>intro ml _; simp
  | cons p t ih =>
   intro ml hq
   have h1 : ∀ (q : List Side) (ml : List (Int × List Int)),(q.foldl (stepL p.2) ml).length ≤ ml.length + q.length:=by
    intro q
    induction q with
    | nil=>intro ml; simp
    | cons r t ih =>
     intro ml
     have h3:=ih (stepL p.2 ml r)
     have h4:=addL_length ml r.cell p.2
     simp only [List.foldl_cons,List.length_cons]
     unfold stepL at h3 ⊢
     omega
   have h5:=ih ((sidesOf tl p.1).foldl (stepL p.2) ml) (fun p hp=>hq p (by simp [hp]))
   have h6:=h1 (sidesOf tl p.1) ml
   have h7:=hq p (by simp)
   simp only [List.foldl_cons,List.length_cons]
   omega
 have:=h2 l.zipIdx [] (fun p hp=>h p.1 (by
  obtain ⟨a,i⟩:=p
  exact (List.mem_zipIdx hp).2.2 ▸ gM _))
 simpa [metC] using this
theorem perm_of_key {α : Type} (f : α → Int) {vt ms : List α} (hs : ∀ t ∈ vt,t ∈ ms) (hp : (vt.map f).Perm (ms.map f)) (hn : (ms.map f).Nodup) : vt.Perm ms:=by
 have hinj : ∀ {l : List α},(l.map f).Nodup → ∀ a ∈ l,∀ b ∈ l,f a = f b → a = b:=by
  intro l
  induction l with
  | nil=>intro _ a ha; simp at ha
  | cons c t ih =>
   intro h a ha b hb e
   simp only [List.map_cons,List.nodup_cons] at h
   rcases List.mem_cons.1 ha with rfl | ha' <;> rcases List.mem_cons.1 hb with rfl | hb'
   ·rfl
   ·exact absurd (List.mem_map.2 ⟨b,hb',e.symm⟩) h.1
   ·exact absurd (List.mem_map.2 ⟨a,ha',e⟩) h.1
   ·exact ih h.2 a ha' b hb' e
 refine (List.perm_ext_iff_of_nodup (List.Pairwise.of_map f (fun a b hab e=>hab (by rw [e])) (hp.symm.nodup hn)) (List.Pairwise.of_map f (fun a b hab e=>hab (by rw [e])) hn)).2 fun c=>⟨hs c,fun hc=>?_⟩
 obtain ⟨c',h1,h2⟩:=List.mem_map.1 (hp.symm.subset (List.mem_map.2 ⟨c,hc,rfl⟩))
 rw [← hinj hn c' (hs c' h1) c hc h2]
 exact h1
theorem mem_addL (jl : List (Int × List Int)) (a b x y : Int) : y ∈ getL (addL jl a b) x ↔ y ∈ getL jl x ∨ (x = a ∧ y = b):=by
 rw [getL_addL]
 split
 ·rename_i h; simp [h]
 ·rename_i h; simp [h]
theorem mem_join (ml : List (Int × List Int)) (x y : Int) : y ∈ getL (joinC ml) x ↔ ∃ p ∈ ml,p.2 = [x,y] ∨ p.2 = [y,x]:=by
 have key : ∀ (q : List (Int × List Int)) (jl : List (Int × List Int)),y ∈ getL (q.foldl joinStep jl) x ↔ y ∈ getL jl x ∨ ∃ p ∈ q,p.2 = [x,y] ∨ p.2 = [y,x]:=by
  intro q
  induction q with
  | nil=>intro jl; simp
  | cons p t ih =>
   intro jl
   simp only [List.foldl_cons,ih]
   have hp : y ∈ getL (joinStep jl p) x ↔ y ∈ getL jl x ∨ (p.2 = [x,y] ∨ p.2 = [y,x]):=by
    obtain ⟨k,l⟩:=p
    unfold joinStep
    dsimp only
    match l with
    | []=>simp
    | [_]=>simp
    | [a,b] =>
     simp only [mem_addL,List.cons.injEq,and_true]
     constructor
     ·rintro ((h | ⟨h1,h2⟩) | ⟨h1,h2⟩)
      ·exact .inl h
      ·exact .inr (.inl ⟨h1.symm,h2.symm⟩)
      ·exact .inr (.inr ⟨h2.symm,h1.symm⟩)
     ·rintro (h | ⟨h1,h2⟩ | ⟨h1,h2⟩)
      ·exact .inl (.inl h)
      ·exact .inl (.inr ⟨h1.symm,h2.symm⟩)
      ·exact .inr ⟨h2.symm,h1.symm⟩
    | _ :: _ :: _ :: q=>simp
   rw [hp]
   constructor
   ·rintro ((h | h) | ⟨q,h1,h2⟩)
    ·exact .inl h
    ·exact .inr ⟨p,by simp,h⟩
    ·exact .inr ⟨q,by simp [h1],h2⟩
   ·rintro (h | ⟨q,h1,h2⟩)
    ·exact .inl (.inl h)
    ·rcases List.mem_cons.1 h1 with rfl | h1
     ·exact .inl (.inr h2)
     ·exact .inr ⟨q,h1,h2⟩
 unfold joinC
 rw [key]
 simp [getL]
theorem seen_perm {a b : List (Int × List Int)} (h : a.Perm b) : (seenC (joinC a)).length = (seenC (joinC b)).length:=by
 have hr : ∀ (a b : List (Int × List Int)),a.Perm b → ∀ x,Rch (adjJ (joinC a)) 0 x → Rch (adjJ (joinC b)) 0 x:=by
  intro a b h x hx
  refine hx.mono (fun u l hl y hy=>⟨_,I,?_⟩) (fun _ _=>by simp [adjJ])
  simp only [adjJ,Option.some.injEq] at hl
  subst hl
  rw [mem_join] at hy ⊢
  obtain ⟨p,hp,h2⟩:=hy
  exact ⟨p,h.subset hp,h2⟩
 have hc : ∀ jl : List (Int × List Int),cntK jl [] < jl.length + 1:=fun jl=>Nat.lt_succ_of_le (List.length_filter_le _ _)
 have hmem : ∀ (q : List (Int × List Int)) (x : Int),x ∈ seenC (joinC q) ↔ Rch (adjJ (joinC q)) 0 x:=fun q x=>mem_dfs (cnt:=cntK (joinC q)) (fun v v' h=>cntK_mono h) (cntK_strict _) (hc _) (by simp [adjJ]) x
 refine List.Perm.length_eq ((List.perm_ext_iff_of_nodup (dfs_nodup _ _ _ _ (by simp)) (dfs_nodup _ _ _ _ (by simp))).2 fun x=>?_)
 exact (hmem a x).trans (Iff.trans ⟨hr a b h x,hr b a h.symm x⟩ (hmem b x).symm)
theorem around_spec (E : World) (g : PH) (s : Own) (v : Value) (tl : List Cl) (c : Cl) (r : Rc) (hv : Tab g v tl) (hc : CellR g c r) (hok : AOk tl c) :
  Ctr Tryz.prog E 58 #[v,rcv r] g s (fun r g' s'=>r = vi (aroundC tl c) ∧ g = g' ∧ s = s'):=by
 obtain ⟨b,mt,iv,rs,rfl,hb,hm,hI,hall⟩:=hv
 obtain ⟨ri,rd,rp,rn,rcap⟩:=r
 have hcs : SlA encSide g (.slice rp rn rcap) c.sides:=hc.2.2
 have hrn : rn = c.sides.length:=Sl.slen hcs
 have hrd : rd = c.dim:=hc.2.1
 subst hrn hrd
 obtain ⟨hn64,hsg,hin⟩:=hok
 have hx0:=fun h=>hcs.based h
 refine Ctr.of (args:=[pp b 0,rcv ⟨ri,c.dim,rp,c.sides.length,rcap⟩]) func58 I ntmps58 (bE I) ?_
 refine SC.sR (SL.bx (bO I) fun b3=>?_)
 refine lA I (SL.nT (SC.sR (lW (SO.mkMap) ?_)))
 rintro _ _ _ ⟨mz,rfl,rfl,rfl⟩
 refine lW (SO.mkMap) ?_
 rintro _ _ _ ⟨mm,rfl,rfl,rfl⟩
 refine lA I (lA I (SL.nT ?_))
 refine SC.cut (ι:=List (Int × Int) × Ms) (fun _=>[(3,pp b3 0),(5,.map (some mz)),(6,.map (some mm))]) (fun _=>g) (fun q=>mp mm (prsM q.2) :: mp mz (prsZ q.1) :: pt b3 (.cells #[vi ri,vi c.dim,.slice rp c.sides.length rcap] 40 (0,0)) :: (rowsM q.2 ++ s))
  (fun q=>q.1 = sumsC tl c.sides ∧ conM q.2 = metC tl c.sides ∧ ∀ t ∈ q.2,t.2.2.length ≤ 4096) ?_ ?_
 ·refine SC.sR (lU (fA uT40 I zT38 I) (lK (qL iT38 I (cO 2 I I)) (lU (eN uT38 I) (lM I (SL.nT (bK ?_))))))
  refine oP (ι:=Nat × List (Int × Int) × Ms) (fun q=>[(0,pp b 0),(3,pp b3 0),(5,.map (some mz)),(6,.map (some mm)),(21,.slice rp c.sides.length rcap),(22,vi c.sides.length),(23,vi q.1)]) (fun _=>g)
   (fun q=>mp mm (prsM q.2.2) :: mp mz (prsZ q.2.1) :: pt b3 (.cells #[vi ri,vi c.dim,.slice rp c.sides.length rcap] 40 (0,0)) :: (rowsM q.2.2 ++ s))
   (fun q=>q.1 ≤ c.sides.length ∧ q.2.1 = sumsC tl (c.sides.take q.1) ∧ conM q.2.2 = metC tl (c.sides.take q.1) ∧ (∀ p ∈ q.2.1,-((64 * q.1 : Nat) : Int) ≤ p.2 ∧ p.2 ≤ ((64 * q.1 : Nat) : Int)) ∧ ∀ t ∈ q.2.2,t.2.2.length ≤ 64 * q.1) (fun q=>c.sides.length - q.1)
   (0,[],[]) sB rfl rfl ⟨Nat.zero_le _,by simp [sumsC],by simp [metC,conM],by simp,by simp⟩ ?_
  rintro ⟨k,zl0,ms0⟩ ⟨hk,hz0,hm0,hzb0,hmb0⟩
  dsimp only at hk hz0 hm0 hzb0 hmb0 ⊢
  refine SC.sR (lU (lS I I) (SL.nT (sQ ?_)))
  refine iP I (fun hlt=>?_) (fun hlt=>?_)
  ·have hkl : k < c.sides.length:=oM
   have hb1:=hx0 oM
   have hjx : c.sides[((k : Nat) : Int).toNat]? = some c.sides[k]:=gE hkl
   have htk : c.sides.take (k + 1) = c.sides.take k ++ [c.sides[k]]:=tS hkl
   have hmy : c.sides[k] ∈ c.sides:=gM hkl
   have htkl : (c.sides.take k).length = k:=by simp; omega
   generalize c.sides[k] = y at *
   obtain ⟨x,hx1,hx2,hx3⟩:=all2_look hall zeroCR y.cell
   obtain ⟨xi,xd,xp,xn,xc⟩:=x
   have hxs : SlA encSide g (.slice xp xn xc) (sidesOf tl y):=hx3.2.2
   have hxn : xn = (sidesOf tl y).length:=Sl.slen hxs
   subst hxn
   have hysg:=hsg y hmy
   obtain ⟨hyl,hyr⟩:=hin y hmy
   generalize hsy : sidesOf tl y = sy at hxs hyl hyr
   refine kP (tN (sQ (bK (SC.sR (lM I (lU (iA uT38 zT42 I I hb1 oM sL) (lK (eA iT42 zT42 I hcs.rd hjx) (SL.bx (aL zeroValue42) fun b8=>?_))))))))
   refine lA I (SL.O2 (sK 0 zT42 I I I I I sB) ?_)
   refine SL.nT (sQ ?_)
   refine dW [] [(0,2),(1,2),(2,2),(3,1),(4,2),(5,1),(6,1),(7,2),(8,2),(9,2)] Tryz.mixed (by kernel_rfl) ?_
   refine pU I (mV I) (pU I (nC I) (pU I (fA uT90 I zT88 I) (pK I (qL isAgg88 I (cK hb I)) (pU I (fA uT42 I zT3 I) (pK I (qL iT3 I (cO 0 I I)) (pK I (SQ.eq (v':=rcv ⟨xi,xd,xp,sy.length,xc⟩) (SQ.lookup mty88 I I (MapAt.known hm)) (by rw [hx1,hsy])) ?_))))))
   refine pU I (SU.field uT40 I iT38 I I) (pU I (eN uT38 I) (pU I (mV I) (pN (tN (bK ?_)))))
   refine oP (ι:=Nat × List (Int × Int) × Ms) (fun q=>[(0,pp b 0),(3,pp b3 0),(5,.map (some mz)),(6,.map (some mm)),(7,vi k),(8,pp b8 0),(21,.slice rp c.sides.length rcap),(22,vi c.sides.length),(23,vi k),(35,.slice xp sy.length xc),(36,vi sy.length),(37,vi q.1)]) (fun _=>g)
    (fun q=>pt b8 (.cells #[vi y.cell,vi y.sign] 42 (0,0)) :: mp mm (prsM q.2.2) :: mp mz (prsZ q.2.1) :: pt b3 (.cells #[vi ri,vi c.dim,.slice rp c.sides.length rcap] 40 (0,0)) :: (rowsM q.2.2 ++ s))
    (fun q=>q.1 ≤ sy.length ∧ q.2.1 = (sy.take q.1).foldl (stepZ y) zl0 ∧ conM q.2.2 = (sy.take q.1).foldl (stepL k) (metC tl (c.sides.take k)) ∧ (∀ p ∈ q.2.1,-((64 * k + q.1 : Nat) : Int) ≤ p.2 ∧ p.2 ≤ ((64 * k + q.1 : Nat) : Int)) ∧ ∀ t ∈ q.2.2,t.2.2.length ≤ 64 * k + q.1) (fun q=>sy.length - q.1)
    (0,zl0,ms0) sB rfl rfl ⟨Nat.zero_le _,by simp,by simp [hm0],by simpa using hzb0,by simpa using hmb0⟩ ?_
   rintro ⟨j,zl,ms⟩ ⟨hj,hz,hmm,hzb,hmb⟩
   dsimp only at hj hz hmm hzb hmb ⊢
   refine SC.sR (lU (lS I I) (SL.nT (sQ ?_)))
   refine iP I (fun hlt2=>?_) (fun hlt2=>?_)
   ·have hjl : j < sy.length:=oM
    have hb2:=hxs.based oM
    have hjx2 : sy[((j : Nat) : Int).toNat]? = some sy[j]:=gE hjl
    have htj : sy.take (j + 1) = sy.take j ++ [sy[j]]:=tS hjl
    have hrsg:=hyr _ (gM hjl)
    generalize sy[j] = z at *
    obtain ⟨ms',j0,u,lu,hp1,hp2,hp3,hp4,hp6,hp5⟩:=prep ms z.cell
    have hmb':=hp6 _ hmb
    have hlu:=hmb' _ (List.mem_of_getElem? hp1)
    dsimp only at hlu
    have hgb:=getZ_bound oM hzb z.cell
    have hpr:=sign_mul hysg hrsg
    refine SC.to (fun w hw=>hp5 E g [pt b8 (.cells #[vi y.cell,vi y.sign] 42 (0,0)),mp mm (prsM ms),mp mz (prsZ zl),pt b3 (.cells #[vi ri,vi c.dim,.slice rp c.sides.length rcap] 40 (0,0))] s w hw) ?_
    refine kP (tN (sQ (bK (SC.sR (lU (iA uT38 zT42 I I hb2 oM sL) (lK (eA iT42 zT42 I hxs.rd hjx2) (SL.bx (aL zeroValue42) fun b10=>?_)))))))
    refine SL.O2 (sK 0 zT42 I I I I I sB) ?_
    refine SL.nT (SC.sR (lM I (lU (fA uT42 I zT3 I) (lK (qL iT3 I (cO 0 I I)) (lK (SQ.eq (v':=vi (getZ zl z.cell)) (SQ.lookup mty130 I I (MapAt.own 3 I)) (getZ_map zl _)) (lU (fA uT42 I zT3 I) (lK (qL iT3 I (cO 1 I I)) (lU (fA uT42 I zT3 I) (lK (qL iT3 I (cO 0 I I)) (lU (SU.mul (m:=y.sign) (n:=z.sign) I I oM) (lU (aD (m:=getZ zl z.cell) (n:=y.sign * z.sign) I I oM) (lO (SO.mapUpdate 3 mty130 I I I I) ?_))))))))))))
    rintro _ _ _ ⟨rfl,rfl⟩
    rw [addZ_map]
    refine SL.nT ?_
    refine SC.drawT 5 [10] [(0,2),(1,2),(2,1),(3,2),(4,2),(5,1),(6,1),(7,2),(8,0),(9,0),(10,0)] Tryz.mixed (by kernel_rfl) ?_
    refine pU rfl (mV rfl) (pU rfl (fA uT42 rfl zT3 rfl) (pK rfl (qL iT3 rfl (cO 0 rfl rfl)) (pU rfl (mV rfl) (pU rfl (fA uT42 rfl zT3 rfl) (pK rfl (qL iT3 rfl (cO 0 rfl rfl)) (pK rfl (SQ.eq (SQ.lookup mty131 rfl rfl (MapAt.own 2 rfl)) hp2) (pU rfl (mV rfl) (SP.o rfl (bS sty27 rfl rfl rfl (szs_mk sB) dC) dC (.inr (by rintro _ _ _ ⟨b59,rfl,rfl,rfl⟩; exact ⟨by exact Le.refl _,(by exact .cons _ (List.take_sublist _ _))⟩)) ?_))))))))
    rintro _ _ _ ⟨b59,rfl,rfl,rfl⟩
    refine SP.o rfl (SO.app1 (j0 + 5) ((lu ++ [(k : Int)]).flatMap encInt.enc) (lu ++ [(k : Int)]).length sty27 rfl rfl rfl (rows_get hp1 s) rfl ⟨rfl,trivial⟩ (by simp [encInt]; rfl) (by simp) lN lN) dC (.inr (by rintro u' _ _ ⟨rfl,rfl⟩; exact ⟨by exact Le.refl _,(by exact take_set_sub _ _ _ _)⟩)) ?_
    rintro u' _ _ ⟨rfl,rfl⟩
    refine SP.on I (SO.mapUpdate 2 mty131 I I I I) (.inl dC) ?_
    rintro _ _ _ ⟨rfl,rfl⟩
    refine pN (bN (tN (rG (lU (aD I I oM) (lM I (nL ?_))))))
    refine dR (s':=pt b8 (.cells #[vi y.cell,vi y.sign] 42 (0,0)) :: mp mm (prsM (ms'.set j0 (z.cell,u',lu ++ [(k : Int)]))) :: mp mz (prsZ (addZ zl z.cell (y.sign * z.sign))) :: pt b3 (.cells #[vi ri,vi c.dim,.slice rp c.sides.length rcap] 40 (0,0)) :: (rowsM (ms'.set j0 (z.cell,u',lu ++ [(k : Int)])) ++ s)) (by
     rw [← hp3 u' k,← rows_set (v':=u') (l':=lu ++ [(k : Int)]) hp1 s]
     exact .cons _ (.refl _)) ?_
    exact gA (j + 1,addZ zl z.cell (y.sign * z.sign),ms'.set j0 (z.cell,u',lu ++ [(k : Int)])) sB rfl rfl ⟨lN,by rw [htj,List.foldl_append,← hz]; rfl,by rw [htj,List.foldl_append,← hmm,hp4]; rfl,by
      have:=addZ_bound oM hzb z.cell (x:=y.sign * z.sign) oM
      intro p hp
      have:=this p hp
      dsimp only at *
      omega,fun t ht=>by
      dsimp only at *
      rcases List.mem_or_eq_of_mem_set ht with h | h
      ·have:=hmb' t h; omega
      ·subst h; simp; omega⟩ lN
   ·refine xI (tX (tX (bX (bN (tN (rG (lU (aD I I oM) (lM I (nL ?_)))))))))
    have hjj : sy.take j = sy:=tL oM
    rw [hjj] at hz hmm
    refine dR (s':=mp mm (prsM ms) :: mp mz (prsZ zl) :: pt b3 (.cells #[vi ri,vi c.dim,.slice rp c.sides.length rcap] 40 (0,0)) :: (rowsM ms ++ s)) (.cons _ (.refl _)) ?_
    exact gA (k + 1,zl,ms) sB I I ⟨lN,by rw [htk,sumsC_succ,hsy,← hz0]; exact hz,by rw [htk,metC_succ,hsy,htkl]; exact hmm,by
      intro p hp
      have:=hzb p hp
      dsimp only at *
      omega,fun t ht=>by have:=hmb t ht; dsimp only at *; omega⟩ lN
  ·refine xI (tX (tX (bX ?_)))
   have hkk : c.sides.take k = c.sides:=tL oM
   rw [hkk] at hz0 hm0
   exact ST.mid (zl0,ms0) sB I I ⟨hz0,hm0,fun t ht=>by have:=hmb0 t ht; omega⟩
 ·rintro ⟨zl,ms⟩ ⟨hz,hmc,hmlen⟩
  dsimp only at hz hmc hmlen ⊢
  refine cP (List.Perm.swap _ _ _) (SC.freezeMap fun g1 hl1 hmz=>?_)
  refine SC.freezeMap fun g2 hl2 hmm=>?_
  refine cP List.perm_middle.symm (SC.freezeRows fun g3 hl3 hrows=>?_)
  obtain ⟨es1,clk1,hes1,hmi1⟩:=hmz.mono (hl2.trans hl3)
  obtain ⟨es2,clk2,hes2,hmi2⟩:=hmm.mono hl3
  have hle3:=hl1.trans (hl2.trans hl3)
  have hmsl : ms.length ≤ 4096:=by
   have h1:=metC_length (tl:=tl) (l:=c.sides) (fun x hx=>(hin x hx).1)
   rw [← hmc] at h1
   have h2 : (conM ms).length = ms.length:=by simp [conM]
   omega
  refine sQ (SC.sR (lM I (lW (SO.range underlying130 I hes1) ?_)))
  rintro _ _ _ ⟨it,rfl,rfl,rfl⟩
  refine SL.nT (bK ?_)
  refine oP (ι:=List MapEntry × List (Int × Value)) (fun _=>[(3,pp b3 0),(6,.map (some mm)),(64,pp it 0)]) (fun _=>g3)
   (fun q=>iter it mz es1 clk1 q.1 :: pt b3 (.cells #[vi ri,vi c.dim,.slice rp c.sides.length rcap] 40 (0,0)) :: s)
   (fun q=>RVis (prsZ zl) es1 q.1 q.2 ∧ ∀ p ∈ q.2,p.2 = vi 0) (fun q=>zl.length - q.2.length) ([],[]) sB rfl rfl ⟨RVis.nil _ _,by simp⟩ ?_
  rintro ⟨vis,vl⟩ ⟨hrv,hvz⟩
  dsimp only at hrv hvz ⊢
  refine SC.sR (lW (SO.nextP 0 I I hes1 hmi1 hrv) ?_)
  rintro _ _ _ ⟨rfl,hcase⟩
  rcases hcase with ⟨rfl,rfl,hperm⟩ | ⟨e,pr,he,hq1,hk1,hv1,hrv2,rfl,rfl⟩
  ·have hz0 : (sumsC tl c.sides).any (fun p=>decide (p.2 ≠ 0)) = false:=by
    rw [List.any_eq_false]
    intro p hp
    rw [← hz] at hp
    have:=hvz (p.1,vi p.2) (hperm.symm.subset (List.mem_map.2 ⟨p,hp,rfl⟩))
    simpa using this
   refine lU (xT I I) (SL.nT (sQ (cF I (xI (tX (tX (bX (tN (sQ (SC.drop (s':=pt b3 (.cells #[vi ri,vi c.dim,.slice rp c.sides.length rcap] 40 (0,0)) :: s) (.cons _ (.refl _)) (rG (lW (SO.mkMap) ?_))))))))))))
   rintro _ _ _ ⟨mj,rfl,rfl,rfl⟩
   refine SL.bx (aL zeroValue131) fun b13=>?_
   refine SL.O2 (sK 0 sizeOf131 I I I I I sB) ?_
   refine SL.nT (sQ (SC.sR (lM I (lW (SO.range underlying131 I hes2) ?_))))
   rintro _ _ _ ⟨it2,rfl,rfl,rfl⟩
   refine SL.nT (bK ?_)
   refine oP (ι:=List MapEntry × List (Int × Value) × Ms × Ms) (fun _=>[(3,pp b3 0),(13,pp b13 0),(73,pp it2 0)]) (fun _=>g3)
    (fun q=>iter it2 mm es2 clk2 q.1 :: pt b13 (.cells #[.map (some mj)] 131 (0,0)) :: mp mj (prsM q.2.2.2) :: pt b3 (.cells #[vi ri,vi c.dim,.slice rp c.sides.length rcap] 40 (0,0)) :: (rowsM q.2.2.2 ++ s))
    (fun q=>RVis (prsM ms) es2 q.1 q.2.1 ∧ q.2.1 = prsM q.2.2.1 ∧ (∀ t ∈ q.2.2.1,t ∈ ms ∧ t.2.2.length = 2) ∧ conM q.2.2.2 = joinC (conM q.2.2.1) ∧ ∀ t ∈ q.2.2.2,t.2.2.length ≤ 2 * q.2.2.1.length) (fun q=>ms.length - q.2.1.length) ([],[],[],[]) sB rfl rfl ⟨RVis.nil _ _,rfl,by simp,rfl,by simp⟩ ?_
   rintro ⟨vis2,vl2,vt,js⟩ ⟨hrv3,hvl2,hvt,hjs,hjb⟩
   dsimp only at hrv3 hvl2 hvt hjs hjb ⊢
   have hvtl : vt.length ≤ ms.length:=by have:=hrv3.len hmi2; rw [hvl2] at this; simpa [prsM] using this
   refine SC.sR (lW (SO.nextP 0 I I hes2 hmi2 hrv3) ?_)
   rintro _ _ _ ⟨rfl,hcase2⟩
   rcases hcase2 with ⟨rfl,rfl,hperm2⟩ | ⟨e2,pr2,he2,hq2,hk2,hv2,hrv4,rfl,rfl⟩
   ·have hpm : (conM vt).Perm (metC tl c.sides):=by
     rw [← hmc]
     have hn : (ms.map fun t=>t.1).Nodup:=by
      have:=metC_nodup tl c.sides
      rw [← hmc] at this
      simpa [conM,List.map_map,Function.comp_def] using this
     have h1:=hperm2.map Prod.fst
     rw [hvl2] at h1
     simp only [prsM,List.map_map,Function.comp_def] at h1
     exact (perm_of_key (fun t=>t.1) (fun t ht=>(hvt t ht).1) h1 hn).map _
    have hreg : (metC tl c.sides).any (fun p=>decide ((p.2.length : Int) ≠ 2)) = false:=by
     rw [List.any_eq_false]
     intro p hp
     obtain ⟨t,ht,rfl⟩:=List.mem_map.1 (hpm.symm.subset hp)
     have:=(hvt t ht).2
     simp [this]
    have hjlen : ∀ t ∈ js,t.2.2.length < 1099511627776:=fun t ht=>by
     have h1:=hjb t ht
     omega
    refine lU (xT I I) (SL.nT (sQ (cF I (xI (tX (tX (bX (tN (sQ (SC.drop (.cons _ (.refl _)) (SC.freeze fun g4 hl4 hb13=>?_)))))))))))
    refine SC.freezeMap fun g5 hl5 hmj=>?_
    refine cP List.perm_middle.symm (SC.freezeRows fun g6 hl6 hjrows=>?_)
    refine rG (lW (SO.mkMap) ?_)
    rintro _ _ _ ⟨sm,rfl,rfl,rfl⟩
    refine SL.bx (aL zeroValue84) fun b16=>?_
    refine SL.O2 (sK 0 sizeOf84 I I I I I ⟨I,trivial⟩) (SL.freeze fun g7 hl7 hb16=>?_)
    refine SL.nT (SC.sR (SL.bx (aL zeroValue132) fun b17=>?_))
    refine SL.nT (SC.sR (lU (SU.mkFunc I) (SL.O2 (sK 0 sizeOf132 I I I I I ⟨I,trivial⟩) (SL.freeze fun g8 hl8 hb17=>?_))))
    refine SL.nT (SC.sR (lK (qL isAgg132 I (cK hb17 I)) (lW (SO.callV I I (CallV.mk (cap:=[pp b16 0,pp b13 0,pp b17 0]) call113 (visit_spec E g8 b16 b13 b17 sm mj js (hmj.mono (hl6.trans (hl7.trans hl8))) (fun t ht=>(hjrows t ht).mono (hl7.trans hl8)) hjlen (hl8 _ _ hb16) ((hl5.trans (hl6.trans (hl7.trans hl8))) _ _ hb13) hb17 ((conM js).length + 1) 0 [] _ 0 (Nat.lt_succ_of_le (List.length_filter_le _ _)) I))) ?_)))
    rintro _ _ _ ⟨rfl,rfl⟩
    refine SL.nT (sQ (SC.sR (lK (qL isAgg84 I (cK (hl8 _ _ hb16) I)) (lK (SQ.lenMap underlying84 I (MapAt.own 0 I)) (lU (fA uT40 I zT38 I) (lK (qL iT38 I (cO 1 I I)) (lU (eN uT38 I) (lU (nQ I I) (SL.nT ?_)))))))))
    have hseen : (setP (dfs (adjJ (conM js)) ((conM js).length + 1) 0 [])).length = (seenC (joinC (metC tl c.sides))).length:=by
     rw [← seen_perm hpm,← hjs]
     simp [setP,seenC]
    rw [hseen]
    have hlast:=hle3.trans (hl4.trans (hl5.trans (hl6.trans (hl7.trans hl8))))
    refine iP I (fun hne=>?_) (fun hne=>?_)
    ·refine SC.sR (lA I (SL.nT (rE (tR ?_))))
     refine dR (s':=s) (.cons _ (.cons _ (.refl _))) (ST.less hlast ?_)
     exact ST.ret1 (.inl I) results58 I ⟨by unfold aroundC; rw [if_neg (by rw [hz0]; exact Bool.false_ne_true),if_neg (by rw [hreg]; exact Bool.false_ne_true),if_pos hne],I,I⟩
    ·refine kP (tN (SC.sR (lA I (SL.nT (rE ?_)))))
     refine dR (s':=s) (.cons _ (.cons _ (.refl _))) (ST.less hlast ?_)
     exact ST.ret1 (.inl I) results58 I ⟨by unfold aroundC; rw [if_neg (by rw [hz0]; exact Bool.false_ne_true),if_neg (by rw [hreg]; exact Bool.false_ne_true),if_neg hne],I,I⟩
   ·obtain ⟨⟨tk,tv,tl2⟩,ht,rfl⟩:=List.mem_map.1 hq2
    have hti : Ints g3 tv tl2:=hrows _ ht
    have htl : tl2.length ≤ 4096:=hmlen _ ht
    obtain ⟨tp,tc,rfl⟩:=SlA.form hti
    refine lU (xT I I) (SL.nT (sQ (cT I (kP (tN (bK (SC.sR (lK (SQ.entryP 0 I I hes2 hmi2 he2 hk2 hv2) (lU (xT I I) (lA I (SL.nT (sQ (SC.sR (lM I (lU (eN uT27 I) (lU (nQ I I) (SL.nT ?_)))))))))))))))))
    refine iP I (fun hne2=>?_) (fun hne2=>?_)
    ·refine SC.sR (lA I (SL.nT (rE (tR (bR (tR (bR (tR ?_))))))))
     refine dR (s':=s) (.cons _ (.cons _ (.cons _ (.cons _ (List.sublist_append_right _ _))))) (ST.less hle3 ?_)
     have hany : (metC tl c.sides).any (fun p=>decide ((p.2.length : Int) ≠ 2)) = true:=by
      rw [← hmc,List.any_eq_true]
      exact ⟨(tk,tl2),List.mem_map.2 ⟨_,ht,I⟩,by simpa using hne2⟩
     exact ST.ret1 (.inl I) results58 I ⟨by unfold aroundC; rw [if_neg (by rw [hz0]; exact Bool.false_ne_true),if_pos hany],I,I⟩
    ·obtain ⟨a,bb,rfl⟩ : ∃ a bb,tl2 = [a,bb]:=by
      match tl2,hne2 with
      | [],h=>exact absurd (by simp) h
      | [_],h=>exact absurd (by simp) h
      | [a,bb],_=>exact ⟨a,bb,rfl⟩
      | _ :: _ :: _ :: q,h=>exact absurd (by simp only [List.length_cons]; omega) h
     have hbt:=SlA.based hti (by simp)
     obtain ⟨js',j0,u0,lu,hp1,hp2,hp3,hp4,hp6,hp5⟩:=prep js a
     have hjb':=hp6 _ hjb
     have hlu:=hjb' _ (List.mem_of_getElem? hp1)
     dsimp only at hlu
     refine kP (tN (sQ ?_))
     refine SC.to (fun w hw=>hp5 E g3 [iter it2 mm es2 clk2 (vis2 ++ [e2]),pt b13 (.cells #[.map (some mj)] 131 (0,0)),mp mj (prsM js),pt b3 (.cells #[vi ri,vi c.dim,.slice rp c.sides.length rcap] 40 (0,0))] s w hw) ?_
     refine SC.drawT 4 [14] [(0,1),(1,2),(2,2),(3,1),(4,1),(5,2),(6,2),(7,1),(8,1),(9,2),(10,2),(11,1),(12,0),(13,0),(14,0)] Tryz.mixed (by kernel_rfl) ?_
     refine pK I (qL isAgg131 I (cO 1 I I)) (pU I (mV I) (pU I (iA uT27 zT3 I I hbt dC (show (0 : Int) < ((2 : Nat) : Int) by decide)) ?_))
     refine pK I (eB iT3 I (SlA.rd hti) (j:=0) I I) (pK I (qL isAgg131 I (cO 1 I I)) (pU I (mV I) (pU I (iA uT27 zT3 I I hbt dC (show (0 : Int) < ((2 : Nat) : Int) by decide)) ?_)))
     refine pK I (eB iT3 I (SlA.rd hti) (j:=0) I I) (pK I (SQ.eq (SQ.lookup mty131 I I (MapAt.own 2 I)) hp2) (pU I (mV I) (pU I (iA uT27 zT3 I I hbt dC (show (1 : Int) < ((2 : Nat) : Int) by decide)) ?_)))
     refine pK rfl (eB iT3 rfl (SlA.rd hti) (j:=1) rfl rfl) (SP.o rfl (bS sty27 rfl rfl rfl (szs_mk sB) dC) dC (.inr (by rintro _ _ _ ⟨b93,rfl,rfl,rfl⟩; exact ⟨by exact Le.refl _,(by exact .cons _ (List.take_sublist _ _))⟩)) ?_)
     rintro _ _ _ ⟨b93,rfl,rfl,rfl⟩
     refine SP.o rfl (SO.app1 (j0 + 4) ((lu ++ [bb]).flatMap encInt.enc) (lu ++ [bb]).length sty27 rfl rfl rfl (rows_get hp1 s) rfl ⟨rfl,trivial⟩ (by simp [encInt]; rfl) (by simp) lN lN) dC (.inr (by rintro u1 _ _ ⟨rfl,rfl⟩; exact ⟨by exact Le.refl _,(by exact take_set_sub _ _ _ _)⟩)) ?_
     rintro u1 _ _ ⟨rfl,rfl⟩
     refine SP.on I (SO.mapUpdate 2 mty131 I I I I) (.inl dC) ?_
     rintro _ _ _ ⟨rfl,rfl⟩
     refine pN (tN (SC.drop (s':=[iter it2 mm es2 clk2 (vis2 ++ [e2]),pt b13 (.cells #[.map (some mj)] 131 (0,0)),mp mj (prsM (js'.set j0 (a,u1,lu ++ [bb]))),pt b3 (.cells #[vi ri,vi c.dim,.slice rp c.sides.length rcap] 40 (0,0))] ++ (rowsM (js'.set j0 (a,u1,lu ++ [bb])) ++ s)) (by rw [← hp3 u1 bb,← rows_set (v':=u1) (l':=lu ++ [bb]) hp1 s]; exact .refl _) ?_))
     have hjb1 : ∀ t ∈ (js'.set j0 (a,u1,lu ++ [bb])),t.2.2.length ≤ 2 * vt.length + 1:=fun t ht=>(by rcases List.mem_or_eq_of_mem_set ht with h | h; (have:=hjb' t h; omega); (subst h; simp; omega))
     obtain ⟨js2,j1,u2,lw,hq1,hq2',hq3,hq4,hq6,hq5⟩:=prep (js'.set j0 (a,u1,lu ++ [bb])) bb
     have hjb2:=hq6 _ hjb1
     have hlw:=hjb2 _ (List.mem_of_getElem? hq1)
     dsimp only at hlw
     refine SC.to (fun w hw=>hq5 E g3 [iter it2 mm es2 clk2 (vis2 ++ [e2]),pt b13 (.cells #[.map (some mj)] 131 (0,0)),mp mj (prsM (js'.set j0 (a,u1,lu ++ [bb]))),pt b3 (.cells #[vi ri,vi c.dim,.slice rp c.sides.length rcap] 40 (0,0))] s w hw) ?_
     refine SC.drawT 4 [14] [(0,1),(1,2),(2,2),(3,1),(4,1),(5,2),(6,2),(7,1),(8,1),(9,2),(10,2),(11,1),(12,0),(13,0),(14,0)] Tryz.mixed (by kernel_rfl) ?_
     refine pK I (qL isAgg131 I (cO 1 I I)) (pU I (mV I) (pU I (iA uT27 zT3 I I hbt dC (show (1 : Int) < ((2 : Nat) : Int) by decide)) ?_))
     refine pK I (eB iT3 I (SlA.rd hti) (j:=1) I I) (pK I (qL isAgg131 I (cO 1 I I)) (pU I (mV I) (pU I (iA uT27 zT3 I I hbt dC (show (1 : Int) < ((2 : Nat) : Int) by decide)) ?_)))
     refine pK I (eB iT3 I (SlA.rd hti) (j:=1) I I) (pK I (SQ.eq (SQ.lookup mty131 I I (MapAt.own 2 I)) hq2') (pU I (mV I) (pU I (iA uT27 zT3 I I hbt dC (show (0 : Int) < ((2 : Nat) : Int) by decide)) ?_)))
     refine pK rfl (eB iT3 rfl (SlA.rd hti) (j:=0) rfl rfl) (SP.o rfl (bS sty27 rfl rfl rfl (szs_mk sB) dC) dC (.inr (by rintro _ _ _ ⟨b107,rfl,rfl,rfl⟩; exact ⟨by exact Le.refl _,(by exact .cons _ (List.take_sublist _ _))⟩)) ?_)
     rintro _ _ _ ⟨b107,rfl,rfl,rfl⟩
     refine SP.o rfl (SO.app1 (j1 + 4) ((lw ++ [a]).flatMap encInt.enc) (lw ++ [a]).length sty27 rfl rfl rfl (rows_get hq1 s) rfl ⟨rfl,trivial⟩ (by simp [encInt]; rfl) (by simp) lN lN) dC (.inr (by rintro u3 _ _ ⟨rfl,rfl⟩; exact ⟨by exact Le.refl _,(by exact take_set_sub _ _ _ _)⟩)) ?_
     rintro u3 _ _ ⟨rfl,rfl⟩
     refine SP.on I (SO.mapUpdate 2 mty131 I I I I) (.inl dC) ?_
     rintro _ _ _ ⟨rfl,rfl⟩
     refine pN (bN (dR (s':=[iter it2 mm es2 clk2 (vis2 ++ [e2]),pt b13 (.cells #[.map (some mj)] 131 (0,0)),mp mj (prsM (js2.set j1 (bb,u3,lw ++ [a]))),pt b3 (.cells #[vi ri,vi c.dim,.slice rp c.sides.length rcap] 40 (0,0))] ++ (rowsM (js2.set j1 (bb,u3,lw ++ [a])) ++ s)) (by rw [← hq3 u3 a,← rows_set (v':=u3) (l':=lw ++ [a]) hq1 s]; exact .refl _) ?_))
     exact gA (vis2 ++ [e2],vl2 ++ [(tk,.slice tp 2 tc)],vt ++ [(tk,.slice tp 2 tc,[a,bb])],js2.set j1 (bb,u3,lw ++ [a])) sB I I ⟨hrv4,by rw [hvl2]; simp [prsM],fun t ht2=>by
       rcases List.mem_append.1 ht2 with h | h
       ·exact hvt t h
       ·simp at h; subst h; exact ⟨ht,rfl⟩,by rw [hq4,hp4,hjs]; simp [joinC,conM,joinStep],fun t ht2=>by
       simp only [List.length_append,List.length_singleton]
       rcases List.mem_or_eq_of_mem_set ht2 with h | h
       ·have:=hjb2 t h; omega
       ·subst h; simp; omega⟩ (by
       have:=hrv4.len hmi2
       simp only [prsM,List.length_map,List.length_append,List.length_singleton] at this ⊢
       omega)
  ·obtain ⟨zp,hzp,rfl⟩:=List.mem_map.1 hq1
   refine lU (xT I I) (SL.nT (sQ (cT I (kP (tN (bK (SC.sR (lK (SQ.entryP 0 I I hes1 hmi1 he hk1 hv1) (lU (xT I I) (lA I (SL.nT (SC.sR (lM I (lU (nQ I I) (SL.nT ?_)))))))))))))))
   refine iP I (fun hne=>?_) (fun hne=>?_)
   ·refine SC.sR (lA I (SL.nT (rE (bR (tR (bR (tR ?_)))))))
    refine dR (s':=s) (.cons _ (.cons _ (.refl _))) (ST.less hle3 ?_)
    have hany : (sumsC tl c.sides).any (fun p=>decide (p.2 ≠ 0)) = true:=by
     rw [← hz,List.any_eq_true]
     exact ⟨zp,hzp,by simpa using hne⟩
    exact ST.ret1 (.inl I) results58 I ⟨by unfold aroundC; rw [if_pos hany],I,I⟩
   ·refine kP (bN ?_)
    exact gA (vis ++ [e],vl ++ [(zp.1,vi zp.2)]) sB I I ⟨hrv2,fun p hp=>by
     rcases List.mem_append.1 hp with h | h
     ·exact hvz p h
     ·simp at h; subst h
      have : zp.2 = 0:=by simpa using hne
      simp [this]⟩ (by
     have:=hrv2.len hmi1
     simp only [prsZ,List.length_map,List.length_append,List.length_singleton] at this ⊢
     omega)
def chk1 (tl : List Cl) : List Cl → Int → Option (Int × Int)
 | [],_=>none
 | x :: r,last=>if x.id ≤ last then some (x.id,20) else if formC tl x ≠ 0 then some (x.id,formC tl x) else chk1 tl r x.id
def chk2 (tl : List Cl) : List Cl → Option (Int × Int)
 | []=>none
 | x :: r=>if x.dim > 1 ∧ aroundC tl x ≠ 0 then some (x.id,aroundC tl x) else chk2 tl r
def checkC (l : List Cl) : Int × Int:=if (l.length : Int) > 4000 then (0,2) else (chk1 (tabC l) (canonC l) 0).getD ((chk2 (tabC l) (canonC l)).getD (0,0))
theorem form_ok {tl : List Cl} {c : Cl} (h : formC tl c = 0) : c.sides.length ≤ 64 ∧ ∀ x ∈ c.sides,x.sign = 1 ∨ x.sign = -1:=by
 unfold formC at h
 split at h
 ·simp at h
 ·rename_i hdb
  split at h
  ·simp at h
  ·rename_i hcb
   split at h
   ·simp at h
   ·split at h
    ·simp at h
    ·rename_i hsg
     refine ⟨?_,fun x hx=>?_⟩
     ·simp [dimBad] at hdb
      simp [cntBad] at hcb
      rcases Int.lt_trichotomy c.dim 1 with h | h | h
      ·have : c.dim = 0:=oM
       have:=hcb.1.1 this
       simp [this]
      ·have:=hcb.1.2 h
       omega
      ·have:=hcb.2 h
       omega
     ·have h1 : c.sides.any signBad = false:=by simpa using hsg
      rw [List.any_eq_false] at h1
      have h2:=h1 x hx
      simp only [signBad,Bool.and_eq_true,decide_eq_true_eq,ne_eq,not_and,Decidable.not_not] at h2
      by_cases h3 : x.sign = 1
      ·exact .inl h3
      ·exact .inr (h2 h3)
theorem chk1_none {tl : List Cl} : ∀ {l : List Cl} {last : Int},chk1 tl l last = none → ∀ x ∈ l,formC tl x = 0
 | [],_,_,x,hx=>by simp at hx
 | y :: r,last,h,x,hx=>by
  unfold chk1 at h
  split at h
  ·simp at h
  ·split at h
   ·simp at h
   ·rename_i h0
    rcases List.mem_cons.1 hx with rfl | hx
    ·exact Decidable.of_not_not h0
    ·exact chk1_none h x hx
theorem aok_of {l : List Cl} (h : ∀ x ∈ canonC l,formC (tabC l) x = 0) {c : Cl} (hc : c ∈ canonC l) : AOk (tabC l) c:=by
 obtain ⟨h1,h2⟩:=form_ok (h c hc)
 refine ⟨h1,h2,fun x hx=>?_⟩
 unfold sidesOf
 cases hf : findT (tabC l) x.cell with
 | none=>simp [zeroC]
 | some y=>exact form_ok (h y (tabC_mem (findT_mem hf).1))
theorem check_spec (E : World) (g : PH) (s : Own) (v : Value) (l : List Cl) (hv : Cells g v l) (hf : Fits l) :
  Ctr Tryz.prog E 13 #[.agg #[v]] g s (fun r g' s'=>r = .tuple #[vi (checkC l).1,vi (checkC l).2] ∧ g = g' ∧ s = s'):=by
 have hfc:=canonC_fits hf
 have hfl:=hf.1
 obtain ⟨p,cp,hvf⟩:=hv.form
 subst hvf
 refine Ctr.of (args:=[.agg #[.slice p l.length cp]]) func13 I ntmps13 (bE I) ?_
 refine SC.sR (SL.bx (bO I) fun b1=>?_)
 refine lA I (lA I (SL.nT (sQ (SC.sR (lU (fA uT31 I zT29 I) (lK (qL iT29 I (cO 0 I I)) (lU (eN uT29 I) (lU (gR I I) (SL.nT ?_)))))))))
 refine iP I (fun hbig=>?_) (fun hbig=>?_)
 ·refine SC.sR (lA I (lA I (SL.nT (rE (tR (dR (s':=s) (.cons _ (.refl _)) ?_))))))
  exact ST.ret2 (.inl I) results13 I I ⟨by unfold checkC; rw [if_pos hbig],I,I⟩
 ·refine kP (tN (SC.sR (lK (qV 0 iT31 zT31 I I I) (lW (cL kT56 I (of_spec E g _ _ l hv hf)) ?_))))
  rintro tv g1 _ ⟨rfl,hle1,ht⟩
  refine lA I (SL.nT (SC.sR (lK (qV 0 iT31 zT31 I I I) (lW (cL call16 I (canon_spec E g1 _ _ l (hv.mono hle1) hf)) ?_))))
  rintro _ g2 _ ⟨rfl,hle2,u,rfl,rs,hrs,hall⟩
  obtain ⟨q,d,rfl⟩:=hrs.form
  refine lU (SU.field uT31 I iT29 I I) (lA I (lA I (SL.nT (sQ (SC.sR (lM I (lU (eN uT29 I) (lM I (SL.nT (bK ?_))))))))))
  have hres : checkC l = (chk1 (tabC l) (canonC l) 0).getD ((chk2 (tabC l) (canonC l)).getD (0,0)):=by unfold checkC; rw [if_neg hbig]
  have ht2:=ht.mono hle2
  have hlen:=hall.length
  have hcl:=hfc.1
  have hleg:=hle1.trans hle2
  refine oP (ι:=Nat × Int) (fun i=>[(4,tv),(5,vi i.2),(6,.slice q rs.length d),(22,.slice q rs.length d),(23,vi rs.length),(24,vi i.1)]) (fun _=>g2)
   (fun _=>pt b1 (.cells #[.slice p l.length cp] 31 (0,0)) :: s) (fun i=>i.1 ≤ rs.length ∧ chk1 (tabC l) (canonC l) 0 = chk1 (tabC l) ((canonC l).drop i.1) i.2) (fun i=>rs.length - i.1) (0,0)
   sB rfl rfl ⟨Nat.zero_le _,by simp⟩ ?_
  rintro ⟨k,last⟩ ⟨hk,heq⟩
  dsimp only at hk heq ⊢
  refine SC.sR (lU (lS I I) (SL.nT (sQ ?_)))
  refine iP I (fun hlt=>?_) (fun hlt=>?_)
  ·have hkr : k < rs.length:=oM
   have hkc : k < (canonC l).length:=oM
   have hb1:=hrs.based oM
   have hcr:=hall.get (gE hkc) (gE hkr)
   have hgx : rs[((k : Nat) : Int).toNat]? = some rs[k]:=gE hkr
   have hdrop : (canonC l).drop k = (canonC l)[k] :: (canonC l).drop (k + 1):=List.drop_eq_getElem_cons hkc
   have hxl:=hfc.2 _ (gM hkc)
   generalize rs[k] = x at *
   generalize (canonC l)[k] = cx at *
   rw [hdrop] at heq
   obtain ⟨xi,xd,xv⟩:=x
   have hxi : xi = cx.id:=hcr.1
   subst hxi
   refine kP (tN (sQ (bK (SC.sR (lU (iA uT29 zT40 I I hb1 oM sL) (lK (eA iT40 zT40 I hrs.rd hgx) (SL.bx (aL zeroValue40) fun b8=>?_)))))))
   refine SL.O2 (sK 0 zT40 I I I I I sB) ?_
   refine SL.nT (sQ (SC.sR (lU (fA uT40 I zT3 I) (lK (qL iT3 I (cO 0 I I)) (lM I (lU (SU.leq I I) (SL.nT ?_)))))))
   refine iP I (fun hid=>?_) (fun hid=>?_)
   ·refine SC.sR (lU (fA uT40 I zT3 I) (lK (qL iT3 I (cO 0 I I)) (lA I (lA I (SL.nT (rE (tR (bR (tR (tR (bR (tR ?_))))))))))))
    refine dR (s':=s) (.cons _ (.cons _ (.refl _))) (ST.less hleg ?_)
    have h1 : checkC l = (cx.id,20):=by rw [hres,heq]; unfold chk1; rw [if_pos hid]; rfl
    exact ST.ret2 (.inl rfl) results13 rfl rfl ⟨by (rw [h1]; rfl),rfl,rfl⟩
   ·refine kP (tN (SC.sR (lU (fA uT40 I zT3 I) (lK (qL iT3 I (cO 0 I I)) (lA I (SL.nT (SC.sR (lM I (lK (qV 0 iT40 zT40 I I I) (lW (cL call57 I (form_spec E g2 _ tv (tabC l) cx _ ht2 hcr hxl)) ?_))))))))))
    rintro _ _ _ ⟨rfl,rfl,rfl⟩
    refine lA I (SL.nT (SC.sR (lM I (lU (nQ I I) (SL.nT ?_)))))
    refine iP I (fun he=>?_) (fun he=>?_)
    ·refine SC.sR (lU (fA uT40 I zT3 I) (lK (qL iT3 I (cO 0 I I)) (lM I (lA I (lA I (SL.nT (rE (bR (tR (tR (bR (tR ?_))))))))))))
     refine dR (s':=s) (.cons _ (.cons _ (.refl _))) (ST.less hleg ?_)
     have h1 : checkC l = (cx.id,formC (tabC l) cx):=by rw [hres,heq]; unfold chk1; rw [if_neg hid,if_pos he]; rfl
     exact ST.ret2 (.inl rfl) results13 rfl rfl ⟨by (rw [h1]; rfl),rfl,rfl⟩
    ·refine kP (bN (tN (rG (lU (aD I I oM) (lM I (nL (dR (s':=pt b1 (.cells #[.slice p l.length cp] 31 (0,0)) :: s) (.cons _ (.refl _)) ?_)))))))
     exact gA (k + 1,cx.id) sB I I ⟨lN,by rw [heq]; rw [chk1,if_neg hid,if_neg he]⟩ lN
  ·have hkk : (canonC l).drop k = []:=List.drop_of_length_le oM
   rw [hkk] at heq
   have hall0:=chk1_none heq
   refine xI (tX (tX (bX (tN (sQ (SC.sR (lM I (lU (eN uT29 I) (lM I (SL.nT (bK ?_)))))))))))
   refine oP (ι:=Nat) (fun i=>[(4,tv),(45,.slice q rs.length d),(46,vi rs.length),(47,vi i)]) (fun _=>g2)
    (fun _=>pt b1 (.cells #[.slice p l.length cp] 31 (0,0)) :: s) (fun i=>i ≤ rs.length ∧ chk2 (tabC l) (canonC l) = chk2 (tabC l) ((canonC l).drop i)) (fun i=>rs.length - i) 0
    sB rfl rfl ⟨Nat.zero_le _,by simp⟩ ?_
   rintro k ⟨hk,heq2⟩
   try dsimp only
   refine SC.sR (lU (lS I I) (SL.nT (sQ ?_)))
   refine iP I (fun hlt2=>?_) (fun hlt2=>?_)
   ·have hkr : k < rs.length:=oM
    have hkc : k < (canonC l).length:=oM
    have hb1:=hrs.based oM
    have hcr:=hall.get (gE hkc) (gE hkr)
    have hgx : rs[((k : Nat) : Int).toNat]? = some rs[k]:=gE hkr
    have hdrop : (canonC l).drop k = (canonC l)[k] :: (canonC l).drop (k + 1):=List.drop_eq_getElem_cons hkc
    have hcm:=gM hkc
    have haok:=aok_of hall0 hcm
    generalize rs[k] = x at *
    generalize (canonC l)[k] = cx at *
    rw [hdrop] at heq2
    obtain ⟨xi,xd,xv⟩:=x
    have hxi : xi = cx.id:=hcr.1
    have hxd : xd = cx.dim:=hcr.2.1
    subst hxi hxd
    refine kP (tN (sQ (bK (SC.sR (lU (iA uT29 zT40 I I hb1 oM sL) (lK (eA iT40 zT40 I hrs.rd hgx) (SL.bx (aL zeroValue40) fun b11=>?_)))))))
    refine SL.O2 (sK 0 zT40 I I I I I sB) ?_
    refine SL.nT (SC.sR (lU (fA uT40 I zT3 I) (lK (qL iT3 I (cO 0 I I)) (lU (gR I I) (SL.nT ?_)))))
    refine iP I (fun hd1=>?_) (fun hd1=>?_)
    ·refine SC.sR (lM I (lK (qV 0 iT40 zT40 I I I) (lW (cL call58 I (around_spec E g2 _ tv (tabC l) cx _ ht2 hcr haok)) ?_)))
     rintro _ _ _ ⟨rfl,rfl,rfl⟩
     refine lA I (SL.nT (SC.sR (lM I (lU (nQ I I) (SL.nT ?_)))))
     refine iP I (fun he=>?_) (fun he=>?_)
     ·refine SC.sR (lU (fA uT40 I zT3 I) (lK (qL iT3 I (cO 0 I I)) (lM I (lA I (lA I (SL.nT (rE (bR (tR (tR (bR (tR ?_))))))))))))
      refine dR (s':=s) (.cons _ (.cons _ (.refl _))) (ST.less hleg ?_)
      have h1 : checkC l = (cx.id,aroundC (tabC l) cx):=by rw [hres,heq,heq2]; unfold chk2; rw [if_pos ⟨hd1,he⟩]; rfl
      exact ST.ret2 (.inl rfl) results13 rfl rfl ⟨by (rw [h1]; rfl),rfl,rfl⟩
     ·refine kP (bN (tN (rG (lU (aD I I oM) (lM I (nL (dR (s':=pt b1 (.cells #[.slice p l.length cp] 31 (0,0)) :: s) (.cons _ (.refl _)) ?_)))))))
      exact gA (k + 1) sB I I ⟨oM,by rw [heq2]; rw [chk2,if_neg (fun h=>he h.2)]⟩ oM
    ·refine kP (bN (tN (rG (lU (aD I I oM) (lM I (nL (dR (s':=pt b1 (.cells #[.slice p l.length cp] 31 (0,0)) :: s) (.cons _ (.refl _)) ?_)))))))
     exact gA (k + 1) sB I I ⟨oM,by rw [heq2]; rw [chk2,if_neg (fun h=>hd1 h.1)]⟩ oM
   ·have hkk2 : (canonC l).drop k = []:=List.drop_of_length_le oM
    rw [hkk2] at heq2
    refine xI (tX (tX (bX (tN (SC.sR (lA I (lA I (SL.nT (rE ?_)))))))))
    refine dR (s':=s) (.cons _ (.refl _)) (ST.less hleg ?_)
    have h1 : checkC l = (0,0):=by rw [hres,heq,heq2]; rfl
    exact ST.ret2 (.inl I) results13 I I ⟨by (rw [h1]; done),I,I⟩
theorem right_spec (E : World) (g : PH) (s : Own) (v : Value) (l : List Cl) (hv : Cells g v l) (hf : Fits l) :
  Ctr Tryz.prog E 97 #[.agg #[v]] g s (fun r g' s'=>r = vb (decide ((checkC l).2 = 0)) ∧ g = g' ∧ s = s'):=by
 refine Ctr.of (args:=[.agg #[v]]) func97 I ntmps97 (bE I) ?_
 refine SC.sR (SL.bx (bO I) fun b1=>?_)
 refine lA I (SL.nT (SC.sR (lK (qV 0 iT31 zT31 I I I) (lW (cL call13 I (check_spec E g _ v l hv hf)) ?_))))
 rintro _ _ _ ⟨rfl,rfl,rfl⟩
 refine lM I (lU (xT I I) (lU (xT I I) (lA I (lA I (SL.nT (SC.sR (lM I (lU (eQ I I) (lA I (SL.nT (rE (dR (s':=s) (.cons _ (.refl _)) ?_))))))))))))
 exact ST.ret1 (.inl I) results97 I ⟨I,I,I⟩
theorem isNaN2_spec (E : World) (g : PH) (s : Own) (a : Int) : Ctr Tryz.prog E 126 #[vi a] g s (fun r g' s'=>r = vb false ∧ g = g' ∧ s = s'):=by
 refine Ctr.of (args:=[vi a]) func126 I ntmps126 (bE I) ?_
 refine SC.sR (lA I (SL.nT (SC.sR (lM I (lM I (lU (nQ I I) (lA I (SL.nT (rE ?_)))))))))
 exact ST.ret1 (.inl I) results126 I ⟨by simp,I,I⟩
theorem less_spec (E : World) (g : PH) (s : Own) (a b : Int) : Ctr Tryz.prog E 125 #[vi a,vi b] g s (fun r g' s'=>r = vb (decide (a < b)) ∧ g = g' ∧ s = s'):=by
 refine Ctr.of (args:=[vi a,vi b]) func125 I ntmps125 (bE I) ?_
 refine SC.sR (lA I (SL.nT (SC.sR (lM I (lW (cL call150 I (isNaN_spec E g s a)) ?_)))))
 rintro _ _ _ ⟨rfl,rfl,rfl⟩
 refine lM I ?_
 first | refine SL.gu (gT rfl rfl rfl dC) (mV rfl) dC ?_ | refine SL.off (gF rfl rfl rfl dC) dC ?_ | refine SL.off (Gd.off rfl rfl rfl dC) dC ?_
 first | (refine SL.go (gT rfl rfl rfl dC) (cL call150 rfl (isNaN_spec E g s b)) dC ?_; rintro _ _ _ ⟨rfl,rfl,rfl⟩) | refine SL.off (gF rfl rfl rfl dC) dC ?_ | refine SL.off (Gd.off rfl rfl rfl dC) dC ?_
 first | refine SL.gu (gT rfl rfl rfl dC) ((by first | exact SU.notP rfl | exact SU.not rfl)) dC ?_ | refine SL.off (gF rfl rfl rfl dC) dC ?_ | refine SL.off (Gd.off rfl rfl rfl dC) dC ?_
 refine lU (pF I I) (lM I ?_)
 first | refine SL.gu (gT rfl rfl rfl dC) (mV rfl) dC ?_ | refine SL.off (gF rfl rfl rfl dC) dC ?_ | refine SL.off (Gd.off rfl rfl rfl dC) dC ?_
 first | refine SL.gu (gT rfl rfl rfl dC) (mV rfl) dC ?_ | refine SL.off (gF rfl rfl rfl dC) dC ?_ | refine SL.off (Gd.off rfl rfl rfl dC) dC ?_
 first | refine SL.gu (gT rfl rfl rfl dC) (lS rfl rfl) dC ?_ | refine SL.off (gF rfl rfl rfl dC) dC ?_ | refine SL.off (Gd.off rfl rfl rfl dC) dC ?_
 refine lU (pF I I) (lA I (SL.nT (rE ?_)))
 exact ST.ret1 (.inl I) results125 I ⟨I,I,I⟩
def lbI (l : List Int) (x : Int) : Nat:=(l.filter fun y=>decide (y < x)).length
theorem lb_eq {l : List Int} {x : Int} {i : Nat} (hi : i ≤ l.length) (h1 : ∀ k (h : k < l.length),k < i → l[k] < x) (h2 : ∀ k (h : k < l.length),i ≤ k → x ≤ l[k]) : lbI l x = i:=by
 unfold lbI
 have e : l = l.take i ++ l.drop i:=(List.take_append_drop i l).symm
 rw [e,List.filter_append]
 have f1 : (l.take i).filter (fun y=>decide (y < x)) = l.take i:=by
  rw [List.filter_eq_self]
  intro y hy
  obtain ⟨k,hk,rfl⟩:=List.getElem_of_mem hy
  simp at hk
  simpa using h1 k oM oM
 have f2 : (l.drop i).filter (fun y=>decide (y < x)) = []:=by
  rw [List.filter_eq_nil_iff]
  intro y hy
  obtain ⟨k,hk,rfl⟩:=List.getElem_of_mem hy
  simp at hk
  have:=h2 (i + k) oM oM
  simp only [List.getElem_drop]
  simp
  omega
 rw [f1,f2]
 simp
 omega
theorem found_eq {l : List Int} {x : Int} {i : Nat} (hs : l.Pairwise (· ≤ ·)) (h1 : ∀ k (h : k < l.length),k < i → l[k] < x) (h2 : ∀ k (h : k < l.length),i ≤ k → x ≤ l[k]) (hi : i < l.length) : decide (l[i] = x) = l.contains x:=by
 rw [Bool.eq_iff_iff]
 simp
 constructor
 ·intro e; rw [← e]; exact gM hi
 ·intro hm
  obtain ⟨k,hk,e⟩:=List.getElem_of_mem hm
  have hki : i ≤ k:=by
   rcases Nat.lt_or_ge k i with h | h
   ·have:=h1 k hk h; omega
   ·exact h
  have h3:=h2 i hi (lR _)
  rcases Nat.eq_or_lt_of_le hki with rfl | h
  ·exact e
  ·have:=List.pairwise_iff_getElem.1 hs i k hi hk h
   omega
theorem notFound {l : List Int} {x : Int} {i : Nat} (h1 : ∀ k (h : k < l.length),k < i → l[k] < x) (hi : ¬ i < l.length) : l.contains x = false:=by
 rw [Bool.eq_false_iff]
 intro hm
 simp at hm
 obtain ⟨k,hk,e⟩:=List.getElem_of_mem hm
 have:=h1 k hk oM
 omega
theorem binSearch_spec (E : World) (g : PH) (s : Own) (v : Value) (l : List Int) (x : Int) (hv : Ints g v l) (hl : l.length < 1099511627776) (hs : l.Pairwise (· ≤ ·)) :
  Ctr Tryz.prog E 71 #[v,vi x] g s (fun r g' s'=>r = .tuple #[vi (lbI l x),vb (l.contains x)] ∧ g = g' ∧ s = s'):=by
 obtain ⟨p,c,rfl⟩:=SlA.form hv
 refine Ctr.of (args:=[.slice p l.length c,vi x]) func71 I ntmps71 (bE I) ?_
 refine SC.sR (lA I (lA I (SL.nT (SC.sR (lM I (lU (eN uT27 I) (lA I (SL.nT (SC.sR (lM I (lA I (lA I (SL.nT (sQ (bK ?_)))))))))))))))
 refine oP (ι:=Nat × Nat) (fun q=>[(0,.slice p l.length c),(1,vi x),(6,vi l.length),(7,vi q.1),(8,vi q.2)]) (fun _=>g) (fun _=>s)
  (fun q=>q.1 ≤ q.2 ∧ q.2 ≤ l.length ∧ (∀ k (h : k < l.length),k < q.1 → l[k] < x) ∧ ∀ k (h : k < l.length),q.2 ≤ k → x ≤ l[k]) (fun q=>q.2 - q.1) (0,l.length)
  sB rfl rfl ⟨Nat.zero_le _,lR _,fun k _ h=>absurd h oM,fun k h1 h2=>absurd h1 (by dsimp only at h2; omega)⟩ ?_
 rintro ⟨i,j⟩ ⟨hij,hj,hlo,hhi⟩
 dsimp only at hij hj hlo hhi ⊢
 refine sQ (SC.sR (lM I (lM I (lU (lS I I) (SL.nT ?_)))))
 refine iP I (fun hlt=>?_) (fun hlt=>?_)
 ·have hb1:=SlA.based hv oM
  have hmid : ((i : Int) + (j : Int)) / 2 = (((i + j) / 2 : Nat) : Int):=oM
  have hml : (i + j) / 2 < l.length:=oM
  have hmx : l[((((i + j) / 2 : Nat) : Int)).toNat]? = some l[(i + j) / 2]:=gE hml
  refine kP (tN (bK (SC.sR (lM I (lM I (lU (aD I I oM) (lU (SU.convert uT3 uT139 I) (lU (SU.shr I I dC) (lU (SU.eq (SU.convert uT139 uT3 I) (congrArg vi ((half_int _ oM oM).trans hmid))) (lA I (SL.nT (SC.sR (lM I (lM I (lU (iA uT27 zT3 I I hb1 oM sL) (lK (eB iT3 I (SlA.rd hv) hmx I) (lM I (lW (cL call125 I (less_spec E g _ l[(i + j) / 2] x)) ?_))))))))))))))))))
  rintro _ _ _ ⟨rfl,rfl,rfl⟩
  refine SL.nT ?_
  refine iP I (fun hc=>?_) (fun hc=>?_)
  ·refine rG (lM I (lU (aD I I oM) (lA I (nL (bN ?_)))))
   refine gA ((i + j) / 2 + 1,j) sB I I ⟨lN,hj,fun k hk h=>?_,hhi⟩ lN
   dsimp only at h
   rcases Nat.eq_or_lt_of_le (show k ≤ (i + j) / 2 by omega) with rfl | h'
   ·exact hc
   ·have:=List.pairwise_iff_getElem.1 hs k ((i + j) / 2) hk hml h'
    omega
  ·refine rG (lM I (lA I (nL (bN ?_))))
   refine gA (i,(i + j) / 2) sB I I ⟨lN,lN,hlo,fun k hk h=>?_⟩ lN
   dsimp only at h
   rcases Nat.eq_or_lt_of_le (show (i + j) / 2 ≤ k by omega) with h' | h'
   ·subst h'; omega
   ·have:=List.pairwise_iff_getElem.1 hs ((i + j) / 2) k hml hk h'
    omega
 ·have hie : i = j:=oM
  subst hie
  have hlb:=lb_eq hj hlo hhi
  have hx0:=fun h=>SlA.based hv h
  have hget : (i : Int) < (l.length : Int) → l[((i : Nat) : Int).toNat]? = some (l.getD i 0):=fun h=>by
   have h2 : i < l.length:=oM
   rw [show ((i : Nat) : Int).toNat = i by omega,gE h2,List.getD_eq_getElem?_getD,gE h2]; rfl
  have hfnd : (i : Int) < (l.length : Int) → decide (l.getD i 0 = x) = l.contains x:=fun h=>by
   have h2 : i < l.length:=oM
   rw [← found_eq hs hlo hhi h2,List.getD_eq_getElem?_getD,gE h2]; rfl
  have hnot : ¬ (i : Int) < (l.length : Int) → l.contains x = false:=fun h=>notFound hlo oM
  generalize l.getD i 0 = y at hget hfnd
  refine xI (tX (tX (bX (tN (SC.sR (lM I (lM I (lM I (lU (lS I I) (lM I ?_))))))))))
  refine sP ?_ ?_
  ·intro h35
   refine lY I I I (mV I) (lY I I I (mV I) (lY I I I (iA uT27 zT3 I I (hx0 oM) oM sL) (SL.gq (gT I I I dC) (eB iT3 I (SlA.rd hv) (hget h35) I) dC (lY I I I (mV I) (lY I I I (eQ I I) (lY I I I (mV I) ?_))))))
   refine sP ?_ ?_
   ·intro h42
    refine lZ I I I (lZ I I I (lZ I I I (lZ I I I (lZ I I I (lZ I I I (SL.off (Gd.off I I I dC) dC (SL.off (Gd.off I I I dC) dC (lZ I I I (lY I I I (pT I I) (lU (pT I I) (lA I (lA I (SL.nT (rE ?_))))))))))))))
    first | exact ST.ret2 (.inl rfl) results71 rfl rfl ⟨by rw [hlb,hnot h35],rfl,rfl⟩ | exact ST.ret2 (.inl rfl) results71 rfl rfl ⟨by rw [hlb,← hfnd h35,decide_eq_true h42],rfl,rfl⟩ | exact ST.ret2 (.inl rfl) results71 rfl rfl ⟨by rw [hlb,← hfnd h35,decide_eq_false h42],rfl,rfl⟩
   ·intro h42
    refine lY I I I (mV I) (lY I I I (mV I) (lY I I I (iA uT27 zT3 I I (hx0 oM) oM sL) (SL.gq (gT I I I dC) (eB iT3 I (SlA.rd hv) (hget h35) I) dC (SL.go (gT I I I dC) (cL call126 I (isNaN2_spec E g s _)) dC ?_))))
    rintro _ _ _ ⟨rfl,rfl,rfl⟩
    refine lY I I I (mV I) (lZ I I I (lZ I I I (lY I I I (pF I I) (lY I I I (pF I I) (lU (pT I I) (lA I (lA I (SL.nT (rE ?_)))))))))
    first | exact ST.ret2 (.inl rfl) results71 rfl rfl ⟨by rw [hlb,hnot h35],rfl,rfl⟩ | exact ST.ret2 (.inl rfl) results71 rfl rfl ⟨by rw [hlb,← hfnd h35,decide_eq_true h42],rfl,rfl⟩ | exact ST.ret2 (.inl rfl) results71 rfl rfl ⟨by rw [hlb,← hfnd h35,decide_eq_false h42],rfl,rfl⟩
  ·intro h35
   refine lZ I I I (lZ I I I (lZ I I I (lZ I I I (lZ I I I (lZ I I I (lZ I I I (SL.off (Gd.off I I I dC) dC (SL.off (Gd.off I I I dC) dC (SL.off (Gd.off I I I dC) dC (SL.off (Gd.off I I I dC) dC (SL.off (Gd.off I I I dC) dC (SL.off (Gd.off I I I dC) dC (SL.off (Gd.off I I I dC) dC (SL.off (Gd.off I I I dC) dC (SL.off (Gd.off I I I dC) dC (lZ I I I (lU (pF I I) (lA I (lA I (SL.nT (rE ?_)))))))))))))))))))))
   first | exact ST.ret2 (.inl rfl) results71 rfl rfl ⟨by rw [hlb,hnot h35],rfl,rfl⟩ | exact ST.ret2 (.inl rfl) results71 rfl rfl ⟨by rw [hlb,← hfnd h35,decide_eq_true h42],rfl,rfl⟩ | exact ST.ret2 (.inl rfl) results71 rfl rfl ⟨by rw [hlb,← hfnd h35,decide_eq_false h42],rfl,rfl⟩
def signC (n : Int) : Int:=1 - 2 * (n % 2)
theorem and_one (n : Int) : IntKind.i64.wrap ((BitVec.ofInt IntKind.i64.bits n &&& BitVec.ofInt IntKind.i64.bits 1).toNat : Int) = n % 2:=by
 have h1 : (BitVec.ofInt 64 n &&& BitVec.ofInt 64 1).toNat = (n % 2).toNat:=by
  rw [BitVec.toNat_and,show (BitVec.ofInt 64 1).toNat = 1 from rfl,Nat.and_one_is_mod,BitVec.toNat_ofInt]
  omega
 show IntKind.i64.wrap ((BitVec.ofInt 64 n &&& BitVec.ofInt 64 1).toNat : Int) = n % 2
 rw [h1,IntWalk.i64_in _ oM]
 omega
theorem sign_spec (E : World) (g : PH) (s : Own) (n : Int) : Ctr Tryz.prog E 96 #[vi n] g s (fun r g' s'=>r = vi (signC n) ∧ g = g' ∧ s = s'):=by
 refine Ctr.of (args:=[vi n]) func96 I ntmps96 (bE I) ?_
 refine SC.sR (lA I (SL.nT (SC.sR (lM I (lU (SU.eq (SU.and I I) (congrArg vi (and_one n))) (lU (SU.mul I I oM) (lU (sU I I oM) (lA I (SL.nT (rE ?_))))))))))
 exact ST.ret1 (.inl I) results96 I ⟨I,I,I⟩
theorem foldl_sub (l : List Cl) : ∀ acc : List Cl,∃ r,l.foldl addC acc = acc ++ r ∧ r.Sublist l:=by
 induction l with
 | nil=>intro acc; exact ⟨[],by simp,.refl _⟩
 | cons c t ih =>
  intro acc
  simp only [List.foldl_cons]
  obtain ⟨r,h1,h2⟩:=ih (addC acc c)
  unfold addC at h1
  unfold addC
  split at h1
  ·rename_i hc
   rw [if_pos hc]
   exact ⟨r,h1,h2.cons _⟩
  ·rename_i hc
   rw [if_neg hc]
   exact ⟨c :: r,by rw [h1]; simp,h2.cons_cons _⟩
theorem tabC_sub (l : List Cl) : (tabC l).Sublist (canonC l):=by
 obtain ⟨r,h1,h2⟩:=foldl_sub (canonC l) []
 unfold tabC
 rw [h1]
 simpa using h2
theorem canonC_ids (l : List Cl) : (canonC l).map Cl.id = (sortBy Cl.id l).map Cl.id:=by
 unfold canonC
 rw [List.map_map]
 rfl
theorem canonC_sorted (l : List Cl) : ((canonC l).map Cl.id).Pairwise (· ≤ ·):=by
 rw [canonC_ids,List.pairwise_map]
 exact sortBy_srt l
theorem tabC_sorted (l : List Cl) : ((tabC l).map Cl.id).Pairwise (· ≤ ·):=(canonC_sorted l).sublist ((tabC_sub l).map _)
def prodId (tl ul : List Cl) (x y : Int) : Int:=lbI (tl.map Cl.id) x * ul.length + lbI (ul.map Cl.id) y + 1
theorem lbI_le (l : List Int) (x : Int) : lbI l x ≤ l.length:=List.length_filter_le _ _
theorem mul_le_4000 {a b : Nat} (ha : a ≤ 4000) (hb : b ≤ 4000) : (a : Int) * (b : Int) ≤ 16000000 ∧ 0 ≤ (a : Int) * (b : Int):=by
 have : a * b ≤ 4000 * 4000:=Nat.mul_le_mul ha hb
 have e : (a : Int) * (b : Int) = ((a * b : Nat) : Int):=by simp
 omega
theorem prodId_spec (E : World) (g : PH) (s : Own) (bt bu : Nat) (tv uv : Value) (tl ul : List Cl) (x y : Int) (ht : Tab g tv tl) (hu : Tab g uv ul) (h1 : g bt = some (.cells #[tv] 76 (0,0))) (h2 : g bu = some (.cells #[uv] 76 (0,0)))
  (hs1 : (tl.map Cl.id).Pairwise (· ≤ ·)) (hs2 : (ul.map Cl.id).Pairwise (· ≤ ·)) (hl1 : tl.length ≤ 4000) (hl2 : ul.length ≤ 4000) :
  CallV Tryz.prog E (.func (.func 98) #[] #[pp bt 0,pp bu 0]) [vi x,vi y] g s (fun r g' s'=>r = vi (prodId tl ul x y) ∧ g = g' ∧ s = s'):=by
 refine CallV.mk (cap:=[pp bt 0,pp bu 0]) call98 ?_
 obtain ⟨b,m,iv,rs,rfl,hb,hm,hI,hall⟩:=ht
 obtain ⟨b',m',iv',rs',rfl,hb',hm',hI',hall'⟩:=hu
 have e2 : (ul.map Cl.id).length = ul.length:=by simp
 obtain ⟨q,d,hq⟩:=SlA.form hI'
 rw [e2] at hq
 subst hq
 have hlb1:=lbI_le (tl.map Cl.id) x
 have hlb2:=lbI_le (ul.map Cl.id) y
 simp only [List.length_map] at hlb1 hlb2
 have hmul:=mul_le_4000 (show lbI (tl.map Cl.id) x ≤ 4000 by omega) hl2
 refine Ctr.of (args:=[vi x,vi y,pp bt 0,pp bu 0]) func98 I ntmps98 (bE I) ?_
 refine SC.sR (lA I (SL.nT (SC.sR (lK (qL isAgg76 I (cK h1 I)) (lU (nC I) (lU (fA uT90 I zT27 I) (lK (qL iT27 I (cK hb I)) (lM I (lW (cL call71 I (binSearch_spec E g _ iv (tl.map Cl.id) x hI (by simp; omega) hs1)) ?_)))))))))
 rintro _ _ _ ⟨rfl,rfl,rfl⟩
 refine lM I (lU (xT I I) (lU (xT I I) (lA I (lA I (SL.nT (SC.sR (lK (qL isAgg76 I (cK h2 I)) (lU (nC I) (lU (fA uT90 I zT27 I) (lK (qL iT27 I (cK hb' I)) (lM I (lW (cL call71 I (binSearch_spec E g _ _ (ul.map Cl.id) y hI' (by simp; omega) hs2)) ?_))))))))))))
 rintro _ _ _ ⟨rfl,rfl,rfl⟩
 refine lM I (lU (xT I I) (lU (xT I I) (lA I (lA I (SL.nT (SC.sR (lM I (lK (qL isAgg76 I (cK h2 I)) (lU (nC I) (lU (fA uT90 I zT27 I) (lK (qL iT27 I (cK hb' I)) (lU (eN uT27 I) (lU (SU.mul I I oM) (lM I (lU (aD I I oM) (lU (aD I I oM) (lA I (SL.nT (rE ?_)))))))))))))))))))
 exact ST.ret1 (.inl I) results98 I ⟨I,I,I⟩
theorem Tab.ptr {g : PH} {v : Value} {tl : List Cl} (h : Tab g v tl) : ∃ b,v = pp b 0:=by
 obtain ⟨b,_,_,_,h1,_⟩:=h
 exact ⟨b,h1⟩
theorem check_len {l : List Cl} (h : (checkC l).2 = 0) : l.length ≤ 4000:=by
 unfold checkC at h
 split at h
 ·simp at h
 ·omega
theorem Tryz.buildE31 (w : World) : (Instr.build 31 #[]).run Tryz.prog w = .ok (.agg #[.slice none 0 0]) w:=by
 simp [Instr.build,Instr.fill]
 rfl
theorem Tryz.buildC40 (x y : Int) (w : World) : (Instr.build 40 #[(0,vi x),(1,vi y)]).run Tryz.prog w = .ok (.agg #[vi x,vi y,.slice none 0 0]) w:=by
 have hz : (Value.agg #[vi 0,vi 0,Value.slice none 0 0]).cells = #[vi 0,vi 0,.slice none 0 0]:=rfl
 have h1 : ∀ z : Int,(vi z).cells = #[vi z]:=fun _=>rfl
 simp [Instr.build,Instr.fill,hz,h1]
theorem Tryz.buildS42 (x y : Int) (w : World) : (Instr.build 42 #[(0,vi x),(1,vi y)]).run Tryz.prog w = .ok (.agg #[vi x,vi y]) w:=by
 have hz : (Value.agg #[vi 0,vi 0]).cells = #[vi 0,vi 0]:=rfl
 have h1 : ∀ z : Int,(vi z).cells = #[vi z]:=fun _=>rfl
 simp [Instr.build,Instr.fill,hz,h1]
theorem flatMap_len {α β γ : Type} (l : List α) (m : List β) (f : α → β → γ) : (l.flatMap fun x=>m.map (f x)).length = l.length * m.length:=by
 induction l with
 | nil=>simp
 | cons x t ih=>rw [List.flatMap_cons,List.length_append,ih,List.length_map,List.length_cons,Nat.succ_mul]; omega
theorem signC_cases (n : Int) : signC n = 1 ∨ signC n = -1:=by unfold signC; omega
def prodBad (a b : List Cl) : Bool:=!decide ((checkC a).2 = 0) || !decide ((checkC b).2 = 0) || decide ((a.length : Int) * b.length > 4000)
theorem prodBad_a {a b : List Cl} (h : ¬ (checkC a).2 = 0) : prodBad a b = true:=by simp [prodBad,h]
theorem prodBad_b {a b : List Cl} (h : (checkC a).2 = 0) (h2 : ¬ (checkC b).2 = 0) : prodBad a b = true:=by simp [prodBad,h2]
theorem prodBad_c {a b : List Cl} (h : (checkC a).2 = 0) (h2 : (checkC b).2 = 0) : prodBad a b = decide ((a.length : Int) * b.length > 4000):=by simp [prodBad,h,h2]
theorem prodBad_no {a b : List Cl} (h : prodBad a b = false) : (checkC a).2 = 0 ∧ (checkC b).2 = 0 ∧ (a.length : Int) * b.length ≤ 4000:=by
 simp only [prodBad,Bool.or_eq_false_iff,Bool.not_eq_false',decide_eq_true_eq,decide_eq_false_iff_not] at h
 exact ⟨h.1.1,h.1.2,oM⟩
theorem chk1_ne {tl : List Cl} : ∀ {l : List Cl} {last : Int} {p : Int × Int},chk1 tl l last = some p → p.2 ≠ 0
 | [],_,_,h=>by simp [chk1] at h
 | y :: r,last,p,h=>by
  unfold chk1 at h
  split at h
  ·injection h with h; subst h; show (20 : Int) ≠ 0; decide
  ·split at h
   ·rename_i h0; injection h with h; subst h; exact h0
   ·exact chk1_ne h
theorem form_dim {tl : List Cl} {c : Cl} (h : formC tl c = 0) : 0 ≤ c.dim ∧ c.dim ≤ 8:=by
 unfold formC at h
 split at h
 ·simp at h
 ·rename_i hdb
  simp [dimBad] at hdb
  omega
theorem check_form {l : List Cl} (h : (checkC l).2 = 0) : ∀ x ∈ canonC l,formC (tabC l) x = 0:=by
 unfold checkC at h
 split at h
 ·simp at h
 ·cases h1 : chk1 (tabC l) (canonC l) 0 with
  | none=>exact chk1_none h1
  | some p=>rw [h1] at h; exact absurd h (chk1_ne h1)
theorem canonC_length (l : List Cl) : (canonC l).length = l.length:=by simp [canonC,sortBy_length]
theorem tabC_length (l : List Cl) : (tabC l).length ≤ l.length:=by
 rw [← canonC_length l]
 exact (tabC_sub l).length_le
def prodCell (tl ul : List Cl) (x y : Cl) : Cl:=⟨prodId tl ul x.id y.id,x.dim + y.dim,x.sides.map (fun q=>⟨prodId tl ul q.cell y.id,q.sign⟩) ++ y.sides.map (fun q=>⟨prodId tl ul x.id q.cell,signC x.dim * q.sign⟩)⟩
def prodAll (a b : List Cl) : List Cl:=(canonC a).flatMap fun x=>(canonC b).map (prodCell (tabC a) (tabC b) x)
def prodC (a b : List Cl) : List Cl:=if prodBad a b then [] else if (checkC (prodAll a b)).2 = 0 then canonC (prodAll a b) else []
theorem product_spec (E : World) (g : PH) (s : Own) (v u : Value) (a b : List Cl) (hv : Cells g v a) (hu : Cells g u b) (ha : Fits a) (hb : Fits b) :
  Ctr Tryz.prog E 32 #[.agg #[v],.agg #[u]] g s (fun r g' s'=>s = s' ∧ Le g g' ∧ ∃ x,r = .agg #[x] ∧ Cells g' x (prodC a b)):=by
 obtain ⟨p1,c1,e1⟩:=hv.form
 subst e1
 obtain ⟨p2,c2,e2⟩:=hu.form
 subst e2
 refine Ctr.of (args:=[.agg #[.slice p1 a.length c1],.agg #[.slice p2 b.length c2]]) func32 I ntmps32 (bE I) ?_
 refine SC.sR (SL.bx (bO I) fun b2=>?_)
 refine SL.bx (bO I) fun b3=>?_
 refine SL.bx (aL zeroValue31) fun b4=>?_
 refine SL.nT (sQ ?_)
 refine SC.cutB 35 (prodBad a b) ?_ ?_
 ·refine rG (lK (qV 2 iT31 zT31 I I I) (lW (cL call97 I (right_spec E g _ _ a hv ha)) ?_))
  rintro _ _ _ ⟨rfl,rfl,rfl⟩
  refine lU (SU.notP I) (lM I ?_)
  refine sP ?_ ?_
  ·intro h21
   refine lZ I I I (lZ I I I (lZ I I I (lU (pT I I) (lM I (lZ I I I (lZ I I I (lZ I I I (lZ I I I (lZ I I I (lZ I I I (lZ I I I (lZ I I I (lU (pT I I) (nL ?_))))))))))))))
   exact ST.mid1 (by exact congrArg (fun b=>some (Value.bool b)) (prodBad_a h21).symm) mI
  ·intro h21
   refine SL.gq (gT I I I dC) (qV 1 iT31 zT31 I I I) dC (SL.go (gT I I I dC) (cL call97 I (right_spec E g _ _ b hu hb)) dC ?_)
   rintro _ _ _ ⟨rfl,rfl,rfl⟩
   refine lY I I I (SU.notP I) (lU (pF I I) (lM I ?_))
   refine sP ?_ ?_
   ·intro h26
    refine lZ I I I (lZ I I I (lZ I I I (lZ I I I (lZ I I I (lZ I I I (lZ I I I (lZ I I I (lU (pT I I) (nL ?_)))))))))
    exact ST.mid1 (by exact congrArg (fun b=>some (Value.bool b)) (prodBad_b (Decidable.of_not_not h21) h26).symm) mI
   ·intro h26
    refine lY I I I (fA uT31 I zT29 I) (SL.gq (gT I I I dC) (qL iT29 I (cO 2 I I)) dC (lY I I I (eN uT29 I) (lY I I I (fA uT31 I zT29 I) (SL.gq (gT I I I dC) (qL iT29 I (cO 1 I I)) dC (lY I I I (eN uT29 I) (lY I I I (SU.mul (m:=a.length) (n:=b.length) I I (by have h1:=mul_le_4000 (check_len (Decidable.of_not_not h21)) (check_len (Decidable.of_not_not h26)); omega)) ?_))))))
    refine lY I I I (gR I I) (lU (pF I I) (nL ?_))
    exact ST.mid1 (by exact congrArg (fun b=>some (Value.bool b)) (prodBad_c (Decidable.of_not_not h21) (Decidable.of_not_not h26)).symm) mI
 refine iQ I (fun hbad=>?_) (fun hbad=>?_)
 ·refine SC.sR (lU (SU.build I (buildE31)) (SL.O2 (sK 0 zT31 I I I I I sB) ?_))
  refine SL.nT (rE (tR ?_))
  exact ST.retCD 0 s (.inl I) results32 I iT31 zT31 I I (.cons _ (.cons _ (.cons _ (.refl _)))) ⟨I,Le.refl g,_,I,by unfold prodC; rw [if_pos hbad]; exact ⟨[],Sl.nil g _,trivial⟩⟩
 ·refine kP (tN ?_)
  refine SC.cut (ι:=Nat × Nat × Value × Value × PH) (fun i=>[(2,pp b2 0),(3,pp b3 0),(4,pp b4 0),(5,pp i.1 0),(6,pp i.2.1 0)]) (fun i=>i.2.2.2.2)
   (fun i=>pt i.2.1 (.cells #[i.2.2.2.1] 76 (0,0)) :: pt i.1 (.cells #[i.2.2.1] 76 (0,0)) :: pt b4 (.cells #[.slice none 0 0] 31 (0,0)) :: pt b3 (.cells #[.slice p2 b.length c2] 31 (0,0)) :: pt b2 (.cells #[.slice p1 a.length c1] 31 (0,0)) :: s)
   (fun i=>Le g i.2.2.2.2 ∧ Tab i.2.2.2.2 i.2.2.1 (tabC a) ∧ Tab i.2.2.2.2 i.2.2.2.1 (tabC b)) ?_ ?_
  ·refine SC.drawX [] Tryz.mixed (by kernel_rfl) ?_
   refine SX.q (i:=0) I (by kernel_rfl) (qV 2 iT31 zT31 I I I) dC (SX.q (i:=2) I (by kernel_rfl) (qV 1 iT31 zT31 I I I) dC ?_)
   refine SX.br3 1 4 5 (by kernel_rfl) ?_ ?_ ?_
   ·refine SB.o (i:=1) rfl (cL kT56 rfl (of_spec E g _ _ a hv ha)) dC (.inr (by rintro tv g1 _ ⟨rfl,hle1,ht⟩; exact ⟨by assumption,(by exact .refl _)⟩)) ?_
    rintro tv g1 _ ⟨rfl,hle1,ht⟩
    obtain ⟨bt,rfl⟩:=ht.ptr
    refine SX.br3 3 4 5 (by kernel_rfl) ?_ ?_ ?_
    ·refine SB.o (i:=3) rfl (cL kT56 rfl (of_spec E g1 _ _ b (hu.mono hle1) hb)) dC (.inr (by rintro uv g2 _ ⟨rfl,hle2,hut⟩; exact ⟨by exact Le.trans (by assumption) (by assumption),(by exact .refl _)⟩)) ?_
     rintro uv g2 _ ⟨rfl,hle2,hut⟩
     obtain ⟨bu,rfl⟩:=hut.ptr
     refine SX.br2 4 5 (by kernel_rfl) ?_ ?_
     ·refine SB.o (i:=4) rfl (aL zeroValue76) dC (.inr (by rintro _ _ _ ⟨b5,rfl,rfl,rfl⟩; exact ⟨by exact Le.trans (by assumption) (by assumption),(by exact .cons _ (.refl _))⟩)) ?_
      rintro _ _ _ ⟨b5,rfl,rfl,rfl⟩
      refine SX.br1 5 (by kernel_rfl) ?_
      ·refine SB.o (i:=5) rfl (aL zeroValue76) dC (.inr (by rintro _ _ _ ⟨b6,rfl,rfl,rfl⟩; exact ⟨by exact Le.trans (by assumption) (by assumption),(by exact .cons _ (.cons _ (.refl _)))⟩)) ?_
       rintro _ _ _ ⟨b6,rfl,rfl,rfl⟩
       refine SX.br1 6 (by kernel_rfl) ?_
       ·refine SB.on (i:=6) rfl (sK 1 zT76 rfl rfl rfl rfl rfl sB) (.inr (by rintro _ _ _ ⟨rfl,rfl⟩; exact ⟨by exact Le.trans (by assumption) (by assumption),(by exact .cons _ (.cons _ (.refl _)))⟩)) ?_
        rintro _ _ _ ⟨rfl,rfl⟩
        refine SX.br1 7 (by kernel_rfl) ?_
        ·refine SB.on (i:=7) rfl (sK 0 zT76 rfl rfl rfl rfl rfl sB) (.inr (by rintro _ _ _ ⟨rfl,rfl⟩; exact ⟨by exact Le.trans (by assumption) (by assumption),(by exact .cons _ (.cons _ (.refl _)))⟩)) ?_
         rintro _ _ _ ⟨rfl,rfl⟩
         refine SX.nil (by kernel_rfl) ?_
         first | exact ST.mid (b5,b6,pp bt 0,pp bu 0,g2) sB rfl rfl ⟨hle1.trans hle2,ht.mono hle2,hut⟩ | (refine ST.perm (List.Perm.swap _ _ _) ?_; exact ST.mid (b5,b6,pp bt 0,pp bu 0,g2) sB rfl rfl ⟨hle1.trans hle2,ht.mono hle2,hut⟩)
     ·refine SB.o (i:=5) rfl (aL zeroValue76) dC (.inr (by rintro _ _ _ ⟨b6,rfl,rfl,rfl⟩; exact ⟨by exact Le.trans (by assumption) (by assumption),(by exact .cons _ (.refl _))⟩)) ?_
      rintro _ _ _ ⟨b6,rfl,rfl,rfl⟩
      refine SX.br1 4 (by kernel_rfl) ?_
      ·refine SB.o (i:=4) rfl (aL zeroValue76) dC (.inr (by rintro _ _ _ ⟨b5,rfl,rfl,rfl⟩; exact ⟨by exact Le.trans (by assumption) (by assumption),(by exact .cons _ (.cons _ (.refl _)))⟩)) ?_
       rintro _ _ _ ⟨b5,rfl,rfl,rfl⟩
       refine SX.br1 6 (by kernel_rfl) ?_
       ·refine SB.on (i:=6) rfl (sK 0 zT76 rfl rfl rfl rfl rfl sB) (.inr (by rintro _ _ _ ⟨rfl,rfl⟩; exact ⟨by exact Le.trans (by assumption) (by assumption),(by exact .cons _ (.cons _ (.refl _)))⟩)) ?_
        rintro _ _ _ ⟨rfl,rfl⟩
        refine SX.br1 7 (by kernel_rfl) ?_
        ·refine SB.on (i:=7) rfl (sK 1 zT76 rfl rfl rfl rfl rfl sB) (.inr (by rintro _ _ _ ⟨rfl,rfl⟩; exact ⟨by exact Le.trans (by assumption) (by assumption),(by exact .cons _ (.cons _ (.refl _)))⟩)) ?_
         rintro _ _ _ ⟨rfl,rfl⟩
         refine SX.nil (by kernel_rfl) ?_
         first | exact ST.mid (b5,b6,pp bt 0,pp bu 0,g2) sB rfl rfl ⟨hle1.trans hle2,ht.mono hle2,hut⟩ | (refine ST.perm (List.Perm.swap _ _ _) ?_; exact ST.mid (b5,b6,pp bt 0,pp bu 0,g2) sB rfl rfl ⟨hle1.trans hle2,ht.mono hle2,hut⟩)
    ·refine SB.o (i:=4) rfl (aL zeroValue76) dC (.inr (by rintro _ _ _ ⟨b5,rfl,rfl,rfl⟩; exact ⟨by assumption,(by exact .cons _ (.refl _))⟩)) ?_
     rintro _ _ _ ⟨b5,rfl,rfl,rfl⟩
     refine SX.br2 3 5 (by kernel_rfl) ?_ ?_
     ·refine SB.o (i:=3) rfl (cL kT56 rfl (of_spec E g1 _ _ b (hu.mono hle1) hb)) dC (.inr (by rintro uv g2 _ ⟨rfl,hle2,hut⟩; exact ⟨by exact Le.trans (by assumption) (by assumption),(by exact .cons _ (.refl _))⟩)) ?_
      rintro uv g2 _ ⟨rfl,hle2,hut⟩
      obtain ⟨bu,rfl⟩:=hut.ptr
      refine SX.br1 5 (by kernel_rfl) ?_
      ·refine SB.o (i:=5) rfl (aL zeroValue76) dC (.inr (by rintro _ _ _ ⟨b6,rfl,rfl,rfl⟩; exact ⟨by exact Le.trans (by assumption) (by assumption),(by exact .cons _ (.cons _ (.refl _)))⟩)) ?_
       rintro _ _ _ ⟨b6,rfl,rfl,rfl⟩
       refine SX.br1 6 (by kernel_rfl) ?_
       ·refine SB.on (i:=6) rfl (sK 1 zT76 rfl rfl rfl rfl rfl sB) (.inr (by rintro _ _ _ ⟨rfl,rfl⟩; exact ⟨by exact Le.trans (by assumption) (by assumption),(by exact .cons _ (.cons _ (.refl _)))⟩)) ?_
        rintro _ _ _ ⟨rfl,rfl⟩
        refine SX.br1 7 (by kernel_rfl) ?_
        ·refine SB.on (i:=7) rfl (sK 0 zT76 rfl rfl rfl rfl rfl sB) (.inr (by rintro _ _ _ ⟨rfl,rfl⟩; exact ⟨by exact Le.trans (by assumption) (by assumption),(by exact .cons _ (.cons _ (.refl _)))⟩)) ?_
         rintro _ _ _ ⟨rfl,rfl⟩
         refine SX.nil (by kernel_rfl) ?_
         first | exact ST.mid (b5,b6,pp bt 0,pp bu 0,g2) sB rfl rfl ⟨hle1.trans hle2,ht.mono hle2,hut⟩ | (refine ST.perm (List.Perm.swap _ _ _) ?_; exact ST.mid (b5,b6,pp bt 0,pp bu 0,g2) sB rfl rfl ⟨hle1.trans hle2,ht.mono hle2,hut⟩)
     ·refine SB.o (i:=5) rfl (aL zeroValue76) dC (.inr (by rintro _ _ _ ⟨b6,rfl,rfl,rfl⟩; exact ⟨by assumption,(by exact .cons _ (.cons _ (.refl _)))⟩)) ?_
      rintro _ _ _ ⟨b6,rfl,rfl,rfl⟩
      refine SX.br1 3 (by kernel_rfl) ?_
      ·refine SB.o (i:=3) rfl (cL kT56 rfl (of_spec E g1 _ _ b (hu.mono hle1) hb)) dC (.inr (by rintro uv g2 _ ⟨rfl,hle2,hut⟩; exact ⟨by exact Le.trans (by assumption) (by assumption),(by exact .cons _ (.cons _ (.refl _)))⟩)) ?_
       rintro uv g2 _ ⟨rfl,hle2,hut⟩
       obtain ⟨bu,rfl⟩:=hut.ptr
       refine SX.br1 6 (by kernel_rfl) ?_
       ·refine SB.on (i:=6) rfl (sK 1 zT76 rfl rfl rfl rfl rfl sB) (.inr (by rintro _ _ _ ⟨rfl,rfl⟩; exact ⟨by exact Le.trans (by assumption) (by assumption),(by exact .cons _ (.cons _ (.refl _)))⟩)) ?_
        rintro _ _ _ ⟨rfl,rfl⟩
        refine SX.br1 7 (by kernel_rfl) ?_
        ·refine SB.on (i:=7) rfl (sK 0 zT76 rfl rfl rfl rfl rfl sB) (.inr (by rintro _ _ _ ⟨rfl,rfl⟩; exact ⟨by exact Le.trans (by assumption) (by assumption),(by exact .cons _ (.cons _ (.refl _)))⟩)) ?_
         rintro _ _ _ ⟨rfl,rfl⟩
         refine SX.nil (by kernel_rfl) ?_
         first | exact ST.mid (b5,b6,pp bt 0,pp bu 0,g2) sB rfl rfl ⟨hle1.trans hle2,ht.mono hle2,hut⟩ | (refine ST.perm (List.Perm.swap _ _ _) ?_; exact ST.mid (b5,b6,pp bt 0,pp bu 0,g2) sB rfl rfl ⟨hle1.trans hle2,ht.mono hle2,hut⟩)
    ·refine SB.o (i:=5) rfl (aL zeroValue76) dC (.inr (by rintro _ _ _ ⟨b6,rfl,rfl,rfl⟩; exact ⟨by assumption,(by exact .cons _ (.refl _))⟩)) ?_
     rintro _ _ _ ⟨b6,rfl,rfl,rfl⟩
     refine SX.br2 3 4 (by kernel_rfl) ?_ ?_
     ·refine SB.o (i:=3) rfl (cL kT56 rfl (of_spec E g1 _ _ b (hu.mono hle1) hb)) dC (.inr (by rintro uv g2 _ ⟨rfl,hle2,hut⟩; exact ⟨by exact Le.trans (by assumption) (by assumption),(by exact .cons _ (.refl _))⟩)) ?_
      rintro uv g2 _ ⟨rfl,hle2,hut⟩
      obtain ⟨bu,rfl⟩:=hut.ptr
      refine SX.br1 4 (by kernel_rfl) ?_
      ·refine SB.o (i:=4) rfl (aL zeroValue76) dC (.inr (by rintro _ _ _ ⟨b5,rfl,rfl,rfl⟩; exact ⟨by exact Le.trans (by assumption) (by assumption),(by exact .cons _ (.cons _ (.refl _)))⟩)) ?_
       rintro _ _ _ ⟨b5,rfl,rfl,rfl⟩
       refine SX.br1 6 (by kernel_rfl) ?_
       ·refine SB.on (i:=6) rfl (sK 0 zT76 rfl rfl rfl rfl rfl sB) (.inr (by rintro _ _ _ ⟨rfl,rfl⟩; exact ⟨by exact Le.trans (by assumption) (by assumption),(by exact .cons _ (.cons _ (.refl _)))⟩)) ?_
        rintro _ _ _ ⟨rfl,rfl⟩
        refine SX.br1 7 (by kernel_rfl) ?_
        ·refine SB.on (i:=7) rfl (sK 1 zT76 rfl rfl rfl rfl rfl sB) (.inr (by rintro _ _ _ ⟨rfl,rfl⟩; exact ⟨by exact Le.trans (by assumption) (by assumption),(by exact .cons _ (.cons _ (.refl _)))⟩)) ?_
         rintro _ _ _ ⟨rfl,rfl⟩
         refine SX.nil (by kernel_rfl) ?_
         first | exact ST.mid (b5,b6,pp bt 0,pp bu 0,g2) sB rfl rfl ⟨hle1.trans hle2,ht.mono hle2,hut⟩ | (refine ST.perm (List.Perm.swap _ _ _) ?_; exact ST.mid (b5,b6,pp bt 0,pp bu 0,g2) sB rfl rfl ⟨hle1.trans hle2,ht.mono hle2,hut⟩)
     ·refine SB.o (i:=4) rfl (aL zeroValue76) dC (.inr (by rintro _ _ _ ⟨b5,rfl,rfl,rfl⟩; exact ⟨by assumption,(by exact .cons _ (.cons _ (.refl _)))⟩)) ?_
      rintro _ _ _ ⟨b5,rfl,rfl,rfl⟩
      refine SX.br1 3 (by kernel_rfl) ?_
      ·refine SB.o (i:=3) rfl (cL kT56 rfl (of_spec E g1 _ _ b (hu.mono hle1) hb)) dC (.inr (by rintro uv g2 _ ⟨rfl,hle2,hut⟩; exact ⟨by exact Le.trans (by assumption) (by assumption),(by exact .cons _ (.cons _ (.refl _)))⟩)) ?_
       rintro uv g2 _ ⟨rfl,hle2,hut⟩
       obtain ⟨bu,rfl⟩:=hut.ptr
       refine SX.br1 6 (by kernel_rfl) ?_
       ·refine SB.on (i:=6) rfl (sK 0 zT76 rfl rfl rfl rfl rfl sB) (.inr (by rintro _ _ _ ⟨rfl,rfl⟩; exact ⟨by exact Le.trans (by assumption) (by assumption),(by exact .cons _ (.cons _ (.refl _)))⟩)) ?_
        rintro _ _ _ ⟨rfl,rfl⟩
        refine SX.br1 7 (by kernel_rfl) ?_
        ·refine SB.on (i:=7) rfl (sK 1 zT76 rfl rfl rfl rfl rfl sB) (.inr (by rintro _ _ _ ⟨rfl,rfl⟩; exact ⟨by exact Le.trans (by assumption) (by assumption),(by exact .cons _ (.cons _ (.refl _)))⟩)) ?_
         rintro _ _ _ ⟨rfl,rfl⟩
         refine SX.nil (by kernel_rfl) ?_
         first | exact ST.mid (b5,b6,pp bt 0,pp bu 0,g2) sB rfl rfl ⟨hle1.trans hle2,ht.mono hle2,hut⟩ | (refine ST.perm (List.Perm.swap _ _ _) ?_; exact ST.mid (b5,b6,pp bt 0,pp bu 0,g2) sB rfl rfl ⟨hle1.trans hle2,ht.mono hle2,hut⟩)
   ·refine SB.o (i:=4) rfl (aL zeroValue76) dC (.inr (by rintro _ _ _ ⟨b5,rfl,rfl,rfl⟩; exact ⟨by exact Le.refl _,(by exact .cons _ (.refl _))⟩)) ?_
    rintro _ _ _ ⟨b5,rfl,rfl,rfl⟩
    refine SX.br2 1 5 (by kernel_rfl) ?_ ?_
    ·refine SB.o (i:=1) rfl (cL kT56 rfl (of_spec E g _ _ a hv ha)) dC (.inr (by rintro tv g1 _ ⟨rfl,hle1,ht⟩; exact ⟨by assumption,(by exact .cons _ (.refl _))⟩)) ?_
     rintro tv g1 _ ⟨rfl,hle1,ht⟩
     obtain ⟨bt,rfl⟩:=ht.ptr
     refine SX.br2 3 5 (by kernel_rfl) ?_ ?_
     ·refine SB.o (i:=3) rfl (cL kT56 rfl (of_spec E g1 _ _ b (hu.mono hle1) hb)) dC (.inr (by rintro uv g2 _ ⟨rfl,hle2,hut⟩; exact ⟨by exact Le.trans (by assumption) (by assumption),(by exact .cons _ (.refl _))⟩)) ?_
      rintro uv g2 _ ⟨rfl,hle2,hut⟩
      obtain ⟨bu,rfl⟩:=hut.ptr
      refine SX.br1 5 (by kernel_rfl) ?_
      ·refine SB.o (i:=5) rfl (aL zeroValue76) dC (.inr (by rintro _ _ _ ⟨b6,rfl,rfl,rfl⟩; exact ⟨by exact Le.trans (by assumption) (by assumption),(by exact .cons _ (.cons _ (.refl _)))⟩)) ?_
       rintro _ _ _ ⟨b6,rfl,rfl,rfl⟩
       refine SX.br1 6 (by kernel_rfl) ?_
       ·refine SB.on (i:=6) rfl (sK 1 zT76 rfl rfl rfl rfl rfl sB) (.inr (by rintro _ _ _ ⟨rfl,rfl⟩; exact ⟨by exact Le.trans (by assumption) (by assumption),(by exact .cons _ (.cons _ (.refl _)))⟩)) ?_
        rintro _ _ _ ⟨rfl,rfl⟩
        refine SX.br1 7 (by kernel_rfl) ?_
        ·refine SB.on (i:=7) rfl (sK 0 zT76 rfl rfl rfl rfl rfl sB) (.inr (by rintro _ _ _ ⟨rfl,rfl⟩; exact ⟨by exact Le.trans (by assumption) (by assumption),(by exact .cons _ (.cons _ (.refl _)))⟩)) ?_
         rintro _ _ _ ⟨rfl,rfl⟩
         refine SX.nil (by kernel_rfl) ?_
         first | exact ST.mid (b5,b6,pp bt 0,pp bu 0,g2) sB rfl rfl ⟨hle1.trans hle2,ht.mono hle2,hut⟩ | (refine ST.perm (List.Perm.swap _ _ _) ?_; exact ST.mid (b5,b6,pp bt 0,pp bu 0,g2) sB rfl rfl ⟨hle1.trans hle2,ht.mono hle2,hut⟩)
     ·refine SB.o (i:=5) rfl (aL zeroValue76) dC (.inr (by rintro _ _ _ ⟨b6,rfl,rfl,rfl⟩; exact ⟨by assumption,(by exact .cons _ (.cons _ (.refl _)))⟩)) ?_
      rintro _ _ _ ⟨b6,rfl,rfl,rfl⟩
      refine SX.br1 3 (by kernel_rfl) ?_
      ·refine SB.o (i:=3) rfl (cL kT56 rfl (of_spec E g1 _ _ b (hu.mono hle1) hb)) dC (.inr (by rintro uv g2 _ ⟨rfl,hle2,hut⟩; exact ⟨by exact Le.trans (by assumption) (by assumption),(by exact .cons _ (.cons _ (.refl _)))⟩)) ?_
       rintro uv g2 _ ⟨rfl,hle2,hut⟩
       obtain ⟨bu,rfl⟩:=hut.ptr
       refine SX.br1 6 (by kernel_rfl) ?_
       ·refine SB.on (i:=6) rfl (sK 1 zT76 rfl rfl rfl rfl rfl sB) (.inr (by rintro _ _ _ ⟨rfl,rfl⟩; exact ⟨by exact Le.trans (by assumption) (by assumption),(by exact .cons _ (.cons _ (.refl _)))⟩)) ?_
        rintro _ _ _ ⟨rfl,rfl⟩
        refine SX.br1 7 (by kernel_rfl) ?_
        ·refine SB.on (i:=7) rfl (sK 0 zT76 rfl rfl rfl rfl rfl sB) (.inr (by rintro _ _ _ ⟨rfl,rfl⟩; exact ⟨by exact Le.trans (by assumption) (by assumption),(by exact .cons _ (.cons _ (.refl _)))⟩)) ?_
         rintro _ _ _ ⟨rfl,rfl⟩
         refine SX.nil (by kernel_rfl) ?_
         first | exact ST.mid (b5,b6,pp bt 0,pp bu 0,g2) sB rfl rfl ⟨hle1.trans hle2,ht.mono hle2,hut⟩ | (refine ST.perm (List.Perm.swap _ _ _) ?_; exact ST.mid (b5,b6,pp bt 0,pp bu 0,g2) sB rfl rfl ⟨hle1.trans hle2,ht.mono hle2,hut⟩)
    ·refine SB.o (i:=5) rfl (aL zeroValue76) dC (.inr (by rintro _ _ _ ⟨b6,rfl,rfl,rfl⟩; exact ⟨by exact Le.refl _,(by exact .cons _ (.cons _ (.refl _)))⟩)) ?_
     rintro _ _ _ ⟨b6,rfl,rfl,rfl⟩
     refine SX.br1 1 (by kernel_rfl) ?_
     ·refine SB.o (i:=1) rfl (cL kT56 rfl (of_spec E g _ _ a hv ha)) dC (.inr (by rintro tv g1 _ ⟨rfl,hle1,ht⟩; exact ⟨by assumption,(by exact .cons _ (.cons _ (.refl _)))⟩)) ?_
      rintro tv g1 _ ⟨rfl,hle1,ht⟩
      obtain ⟨bt,rfl⟩:=ht.ptr
      refine SX.br1 3 (by kernel_rfl) ?_
      ·refine SB.o (i:=3) rfl (cL kT56 rfl (of_spec E g1 _ _ b (hu.mono hle1) hb)) dC (.inr (by rintro uv g2 _ ⟨rfl,hle2,hut⟩; exact ⟨by exact Le.trans (by assumption) (by assumption),(by exact .cons _ (.cons _ (.refl _)))⟩)) ?_
       rintro uv g2 _ ⟨rfl,hle2,hut⟩
       obtain ⟨bu,rfl⟩:=hut.ptr
       refine SX.br1 6 (by kernel_rfl) ?_
       ·refine SB.on (i:=6) rfl (sK 1 zT76 rfl rfl rfl rfl rfl sB) (.inr (by rintro _ _ _ ⟨rfl,rfl⟩; exact ⟨by exact Le.trans (by assumption) (by assumption),(by exact .cons _ (.cons _ (.refl _)))⟩)) ?_
        rintro _ _ _ ⟨rfl,rfl⟩
        refine SX.br1 7 (by kernel_rfl) ?_
        ·refine SB.on (i:=7) rfl (sK 0 zT76 rfl rfl rfl rfl rfl sB) (.inr (by rintro _ _ _ ⟨rfl,rfl⟩; exact ⟨by exact Le.trans (by assumption) (by assumption),(by exact .cons _ (.cons _ (.refl _)))⟩)) ?_
         rintro _ _ _ ⟨rfl,rfl⟩
         refine SX.nil (by kernel_rfl) ?_
         first | exact ST.mid (b5,b6,pp bt 0,pp bu 0,g2) sB rfl rfl ⟨hle1.trans hle2,ht.mono hle2,hut⟩ | (refine ST.perm (List.Perm.swap _ _ _) ?_; exact ST.mid (b5,b6,pp bt 0,pp bu 0,g2) sB rfl rfl ⟨hle1.trans hle2,ht.mono hle2,hut⟩)
   ·refine SB.o (i:=5) rfl (aL zeroValue76) dC (.inr (by rintro _ _ _ ⟨b6,rfl,rfl,rfl⟩; exact ⟨by exact Le.refl _,(by exact .cons _ (.refl _))⟩)) ?_
    rintro _ _ _ ⟨b6,rfl,rfl,rfl⟩
    refine SX.br2 1 4 (by kernel_rfl) ?_ ?_
    ·refine SB.o (i:=1) rfl (cL kT56 rfl (of_spec E g _ _ a hv ha)) dC (.inr (by rintro tv g1 _ ⟨rfl,hle1,ht⟩; exact ⟨by assumption,(by exact .cons _ (.refl _))⟩)) ?_
     rintro tv g1 _ ⟨rfl,hle1,ht⟩
     obtain ⟨bt,rfl⟩:=ht.ptr
     refine SX.br2 3 4 (by kernel_rfl) ?_ ?_
     ·refine SB.o (i:=3) rfl (cL kT56 rfl (of_spec E g1 _ _ b (hu.mono hle1) hb)) dC (.inr (by rintro uv g2 _ ⟨rfl,hle2,hut⟩; exact ⟨by exact Le.trans (by assumption) (by assumption),(by exact .cons _ (.refl _))⟩)) ?_
      rintro uv g2 _ ⟨rfl,hle2,hut⟩
      obtain ⟨bu,rfl⟩:=hut.ptr
      refine SX.br1 4 (by kernel_rfl) ?_
      ·refine SB.o (i:=4) rfl (aL zeroValue76) dC (.inr (by rintro _ _ _ ⟨b5,rfl,rfl,rfl⟩; exact ⟨by exact Le.trans (by assumption) (by assumption),(by exact .cons _ (.cons _ (.refl _)))⟩)) ?_
       rintro _ _ _ ⟨b5,rfl,rfl,rfl⟩
       refine SX.br1 6 (by kernel_rfl) ?_
       ·refine SB.on (i:=6) rfl (sK 0 zT76 rfl rfl rfl rfl rfl sB) (.inr (by rintro _ _ _ ⟨rfl,rfl⟩; exact ⟨by exact Le.trans (by assumption) (by assumption),(by exact .cons _ (.cons _ (.refl _)))⟩)) ?_
        rintro _ _ _ ⟨rfl,rfl⟩
        refine SX.br1 7 (by kernel_rfl) ?_
        ·refine SB.on (i:=7) rfl (sK 1 zT76 rfl rfl rfl rfl rfl sB) (.inr (by rintro _ _ _ ⟨rfl,rfl⟩; exact ⟨by exact Le.trans (by assumption) (by assumption),(by exact .cons _ (.cons _ (.refl _)))⟩)) ?_
         rintro _ _ _ ⟨rfl,rfl⟩
         refine SX.nil (by kernel_rfl) ?_
         first | exact ST.mid (b5,b6,pp bt 0,pp bu 0,g2) sB rfl rfl ⟨hle1.trans hle2,ht.mono hle2,hut⟩ | (refine ST.perm (List.Perm.swap _ _ _) ?_; exact ST.mid (b5,b6,pp bt 0,pp bu 0,g2) sB rfl rfl ⟨hle1.trans hle2,ht.mono hle2,hut⟩)
     ·refine SB.o (i:=4) rfl (aL zeroValue76) dC (.inr (by rintro _ _ _ ⟨b5,rfl,rfl,rfl⟩; exact ⟨by assumption,(by exact .cons _ (.cons _ (.refl _)))⟩)) ?_
      rintro _ _ _ ⟨b5,rfl,rfl,rfl⟩
      refine SX.br1 3 (by kernel_rfl) ?_
      ·refine SB.o (i:=3) rfl (cL kT56 rfl (of_spec E g1 _ _ b (hu.mono hle1) hb)) dC (.inr (by rintro uv g2 _ ⟨rfl,hle2,hut⟩; exact ⟨by exact Le.trans (by assumption) (by assumption),(by exact .cons _ (.cons _ (.refl _)))⟩)) ?_
       rintro uv g2 _ ⟨rfl,hle2,hut⟩
       obtain ⟨bu,rfl⟩:=hut.ptr
       refine SX.br1 6 (by kernel_rfl) ?_
       ·refine SB.on (i:=6) rfl (sK 0 zT76 rfl rfl rfl rfl rfl sB) (.inr (by rintro _ _ _ ⟨rfl,rfl⟩; exact ⟨by exact Le.trans (by assumption) (by assumption),(by exact .cons _ (.cons _ (.refl _)))⟩)) ?_
        rintro _ _ _ ⟨rfl,rfl⟩
        refine SX.br1 7 (by kernel_rfl) ?_
        ·refine SB.on (i:=7) rfl (sK 1 zT76 rfl rfl rfl rfl rfl sB) (.inr (by rintro _ _ _ ⟨rfl,rfl⟩; exact ⟨by exact Le.trans (by assumption) (by assumption),(by exact .cons _ (.cons _ (.refl _)))⟩)) ?_
         rintro _ _ _ ⟨rfl,rfl⟩
         refine SX.nil (by kernel_rfl) ?_
         first | exact ST.mid (b5,b6,pp bt 0,pp bu 0,g2) sB rfl rfl ⟨hle1.trans hle2,ht.mono hle2,hut⟩ | (refine ST.perm (List.Perm.swap _ _ _) ?_; exact ST.mid (b5,b6,pp bt 0,pp bu 0,g2) sB rfl rfl ⟨hle1.trans hle2,ht.mono hle2,hut⟩)
    ·refine SB.o (i:=4) rfl (aL zeroValue76) dC (.inr (by rintro _ _ _ ⟨b5,rfl,rfl,rfl⟩; exact ⟨by exact Le.refl _,(by exact .cons _ (.cons _ (.refl _)))⟩)) ?_
     rintro _ _ _ ⟨b5,rfl,rfl,rfl⟩
     refine SX.br1 1 (by kernel_rfl) ?_
     ·refine SB.o (i:=1) rfl (cL kT56 rfl (of_spec E g _ _ a hv ha)) dC (.inr (by rintro tv g1 _ ⟨rfl,hle1,ht⟩; exact ⟨by assumption,(by exact .cons _ (.cons _ (.refl _)))⟩)) ?_
      rintro tv g1 _ ⟨rfl,hle1,ht⟩
      obtain ⟨bt,rfl⟩:=ht.ptr
      refine SX.br1 3 (by kernel_rfl) ?_
      ·refine SB.o (i:=3) rfl (cL kT56 rfl (of_spec E g1 _ _ b (hu.mono hle1) hb)) dC (.inr (by rintro uv g2 _ ⟨rfl,hle2,hut⟩; exact ⟨by exact Le.trans (by assumption) (by assumption),(by exact .cons _ (.cons _ (.refl _)))⟩)) ?_
       rintro uv g2 _ ⟨rfl,hle2,hut⟩
       obtain ⟨bu,rfl⟩:=hut.ptr
       refine SX.br1 6 (by kernel_rfl) ?_
       ·refine SB.on (i:=6) rfl (sK 0 zT76 rfl rfl rfl rfl rfl sB) (.inr (by rintro _ _ _ ⟨rfl,rfl⟩; exact ⟨by exact Le.trans (by assumption) (by assumption),(by exact .cons _ (.cons _ (.refl _)))⟩)) ?_
        rintro _ _ _ ⟨rfl,rfl⟩
        refine SX.br1 7 (by kernel_rfl) ?_
        ·refine SB.on (i:=7) rfl (sK 1 zT76 rfl rfl rfl rfl rfl sB) (.inr (by rintro _ _ _ ⟨rfl,rfl⟩; exact ⟨by exact Le.trans (by assumption) (by assumption),(by exact .cons _ (.cons _ (.refl _)))⟩)) ?_
         rintro _ _ _ ⟨rfl,rfl⟩
         refine SX.nil (by kernel_rfl) ?_
         first | exact ST.mid (b5,b6,pp bt 0,pp bu 0,g2) sB rfl rfl ⟨hle1.trans hle2,ht.mono hle2,hut⟩ | (refine ST.perm (List.Perm.swap _ _ _) ?_; exact ST.mid (b5,b6,pp bt 0,pp bu 0,g2) sB rfl rfl ⟨hle1.trans hle2,ht.mono hle2,hut⟩)
  rintro ⟨b5,b6,tv,uv,g2⟩ ⟨hle,ht,hut⟩
  dsimp only at hle ht hut ⊢
  obtain ⟨hca,hcb,hml⟩:=prodBad_no hbad
  have hla:=check_len hca
  have hlb:=check_len hcb
  have hfa:=check_form hca
  have hfb:=check_form hcb
  have hta : (tabC a).length ≤ 4000:=Nat.le_trans (tabC_length a) hla
  have htb : (tabC b).length ≤ 4000:=Nat.le_trans (tabC_length b) hlb
  refine SC.freeze fun g3 hl3 hb6=>?_
  refine SC.freeze fun g4 hl4 hb5=>?_
  have hle4:=hle.trans (hl3.trans hl4)
  have ht4:=ht.mono (hl3.trans hl4)
  have hut4:=hut.mono (hl3.trans hl4)
  have hb64:=hl4 _ _ hb6
  have hid : ∀ (g' : PH) (s' : Own) (x y : Int),Le g4 g' → CallV Tryz.prog E (.func (.func 98) #[] #[pp b5 0,pp b6 0]) [vi x,vi y] g' s' (fun r g'' s''=>r = vi (prodId (tabC a) (tabC b) x y) ∧ g' = g'' ∧ s' = s''):=fun g' s' x y h=>prodId_spec E g' s' b5 b6 tv uv (tabC a) (tabC b) x y (ht4.mono h) (hut4.mono h) (h _ _ hb5) (h _ _ hb64) (tabC_sorted a) (tabC_sorted b) hta htb
  refine SC.sR (lU (SU.mkFunc I) (lA I (SL.nT (SC.sR (SL.bx (aL zeroValue31) fun b8=>?_)))))
  refine SL.nT (sQ (SC.sR (lK (qV 3 iT31 zT31 I I I) (lW (cL call16 I (canon_spec E g4 _ _ a (hv.mono hle4) ha)) ?_))))
  rintro _ g5 _ ⟨rfl,hle5,ua,rfl,ra,hra,halla⟩
  obtain ⟨qa,da,rfl⟩:=hra.form
  refine lU (SU.field uT31 I iT29 I I) (lU (eN uT29 I) (lM I (SL.nT (bK ?_))))
  have hlena:=halla.length
  have hral : ra.length ≤ 4000:=by rw [← hlena,canonC_length]; exact hla
  refine SC.nilRow 40 3 ?_
  refine oP (ι:=Nat × Value × List Rc × PH) (fun i=>[(2,pp b2 0),(3,pp b3 0),(4,pp b4 0),(7,(.func (.func 98) #[] #[pp b5 0,pp b6 0])),(8,pp b8 0),(44,.slice qa ra.length da),(45,vi ra.length),(46,vi i.1)]) (fun i=>i.2.2.2)
   (fun i=>rowA encCell 40 i.2.1 i.2.2.1 :: pt b8 (.cells #[i.2.1] 31 (0,0)) :: pt b4 (.cells #[.slice none 0 0] 31 (0,0)) :: pt b3 (.cells #[.slice p2 b.length c2] 31 (0,0)) :: pt b2 (.cells #[.slice p1 a.length c1] 31 (0,0)) :: s)
   (fun i=>i.1 ≤ ra.length ∧ Le g5 i.2.2.2 ∧ All2 (CellR i.2.2.2) (((canonC a).take i.1).flatMap fun x=>(canonC b).map (prodCell (tabC a) (tabC b) x)) i.2.2.1) (fun i=>ra.length - i.1) (0,.slice none 0 0,[],g5)
   sB rfl rfl ⟨Nat.zero_le _,Le.refl _,by simp [All2]⟩ ?_
  rintro ⟨k,ov0,acc0,g6⟩ ⟨hk,hle6,hacc0⟩
  dsimp only at hk hle6 hacc0 ⊢
  refine SC.sR (lU (lS I I) (SL.nT (sQ ?_)))
  refine iP I (fun hlt=>?_) (fun hlt=>?_)
  ·have hkr : k < ra.length:=oM
   have hkc : k < (canonC a).length:=oM
   have hba:=hra.based oM
   have hcr:=(halla.get (gE hkc) (gE hkr)).mono hle6
   have hgx : ra[((k : Nat) : Int).toNat]? = some ra[k]:=gE hkr
   have htk : (canonC a).take (k + 1) = (canonC a).take k ++ [(canonC a)[k]]:=tS hkc
   have hxf:=hfa _ (gM hkc)
   generalize ra[k] = x at *
   generalize (canonC a)[k] = cx at *
   obtain ⟨hxl,hxs⟩:=form_ok hxf
   have hxd:=form_dim hxf
   obtain ⟨xi,xd,xp,xn,xc⟩:=x
   have hxi : xi = cx.id:=hcr.1
   have hxdd : xd = cx.dim:=hcr.2.1
   have hxsl : SlA encSide g6 (.slice xp xn xc) cx.sides:=hcr.2.2
   have hxn : xn = cx.sides.length:=Sl.slen hxsl
   subst hxi hxdd hxn
   refine kP (tN (sQ (bK (SC.sR (lU (iA uT29 zT40 I I hba oM sL) (lK (eA iT40 zT40 I (hra.mono hle6).rd hgx) (SL.bx (aL zeroValue40) fun b10=>?_)))))))
   refine SL.O2 (sK 0 zT40 I I I I I sB) ?_
   refine SL.nT (SC.sR (lK (qV 4 iT31 zT31 I I I) (lW (cL call16 I (canon_spec E g6 _ _ b (hu.mono (hle4.trans (hle5.trans hle6))) hb)) ?_)))
   rintro _ g7 _ ⟨rfl,hle7,ub,rfl,rb,hrb,hallb⟩
   obtain ⟨qb,db,rfl⟩:=hrb.form
   refine lU (SU.field uT31 I iT29 I I) (lU (eN uT29 I) (lM I (SL.nT (bK ?_))))
   have hlenb:=hallb.length
   have hrbl : rb.length ≤ 4000:=by rw [← hlenb,canonC_length]; exact hlb
   refine oP (ι:=Nat × Value × List Rc × PH) (fun i=>[(2,pp b2 0),(3,pp b3 0),(4,pp b4 0),(7,(.func (.func 98) #[] #[pp b5 0,pp b6 0])),(8,pp b8 0),(44,.slice qa ra.length da),(45,vi ra.length),(46,vi k),(10,pp b10 0),(52,.slice qb rb.length db),(53,vi rb.length),(54,vi i.1)]) (fun i=>i.2.2.2)
    (fun i=>pt b10 (.cells #[vi cx.id,vi cx.dim,.slice xp cx.sides.length xc] 40 (0,0)) :: rowA encCell 40 i.2.1 i.2.2.1 :: pt b8 (.cells #[i.2.1] 31 (0,0)) :: pt b4 (.cells #[.slice none 0 0] 31 (0,0)) :: pt b3 (.cells #[.slice p2 b.length c2] 31 (0,0)) :: pt b2 (.cells #[.slice p1 a.length c1] 31 (0,0)) :: s)
    (fun i=>i.1 ≤ rb.length ∧ Le g7 i.2.2.2 ∧ All2 (CellR i.2.2.2) ((((canonC a).take k).flatMap fun x=>(canonC b).map (prodCell (tabC a) (tabC b) x)) ++ ((canonC b).take i.1).map (prodCell (tabC a) (tabC b) cx)) i.2.2.1) (fun i=>rb.length - i.1) (0,ov0,acc0,g7)
    sB rfl rfl ⟨Nat.zero_le _,Le.refl _,by simpa using hacc0.mono fun _ _=>CellR.mono hle7⟩ ?_
   rintro ⟨j,ov1,acc1,g8⟩ ⟨hj,hle8,hacc1⟩
   dsimp only at hj hle8 hacc1 ⊢
   refine SC.sR (lU (lS I I) (SL.nT (sQ ?_)))
   refine iP I (fun hlt2=>?_) (fun hlt2=>?_)
   ·have hjr : j < rb.length:=oM
    have hjc : j < (canonC b).length:=oM
    have hbb:=hrb.based oM
    have hcr2:=(hallb.get (gE hjc) (gE hjr)).mono hle8
    have hgy : rb[((j : Nat) : Int).toNat]? = some rb[j]:=gE hjr
    have htj : (canonC b).take (j + 1) = (canonC b).take j ++ [(canonC b)[j]]:=tS hjc
    have hyf:=hfb _ (gM hjc)
    generalize rb[j] = y at *
    generalize (canonC b)[j] = cy at *
    obtain ⟨hyl,hys⟩:=form_ok hyf
    have hyd:=form_dim hyf
    obtain ⟨yi,yd,yp,yn,yc⟩:=y
    have hyi : yi = cy.id:=hcr2.1
    have hydd : yd = cy.dim:=hcr2.2.1
    have hysl : SlA encSide g8 (.slice yp yn yc) cy.sides:=hcr2.2.2
    have hyn : yn = cy.sides.length:=Sl.slen hysl
    subst hyi hydd hyn
    have hxsl8:=hxsl.mono (hle7.trans hle8)
    have hle48 : Le g4 g8:=hle5.trans (hle6.trans (hle7.trans hle8))
    refine kP (tN (sQ (bK (SC.sR (lU (iA uT29 zT40 I I hbb oM sL) (lK (eA iT40 zT40 I (hrb.mono hle8).rd hgy) (SL.bx (aL zeroValue40) fun b12=>?_)))))))
    refine SL.O2 (sK 0 zT40 I I I I I sB) ?_
    refine SL.nT ?_
    refine SC.cut (ι:=Nat) (fun b13=>[(2,pp b2 0),(3,pp b3 0),(4,pp b4 0),(7,(.func (.func 98) #[] #[pp b5 0,pp b6 0])),(8,pp b8 0),(44,.slice qa ra.length da),(45,vi ra.length),(46,vi k),(10,pp b10 0),(52,.slice qb rb.length db),(53,vi rb.length),(54,vi j),(12,pp b12 0),(13,pp b13 0)]) (fun _=>g8) (fun b13=>pt b13 (.cells #[vi (prodId (tabC a) (tabC b) cx.id cy.id),vi (cx.dim + cy.dim),.slice none 0 0] 40 (0,0)) :: pt b12 (.cells #[vi cy.id,vi cy.dim,.slice yp cy.sides.length yc] 40 (0,0)) :: pt b10 (.cells #[vi cx.id,vi cx.dim,.slice xp cx.sides.length xc] 40 (0,0)) :: rowA encCell 40 ov1 acc1 :: pt b8 (.cells #[ov1] 31 (0,0)) :: pt b4 (.cells #[.slice none 0 0] 31 (0,0)) :: pt b3 (.cells #[.slice p2 b.length c2] 31 (0,0)) :: pt b2 (.cells #[.slice p1 a.length c1] 31 (0,0)) :: s) (fun _=>True) ?_ ?_
    ·refine SC.drawX [] Tryz.mixed (by kernel_rfl) ?_
     refine SX.u (i:=0) I (by kernel_rfl) (mV I) dC (SX.u (i:=1) I (by kernel_rfl) (fA uT40 I zT3 I) dC (SX.q (i:=2) I (by kernel_rfl) (qL iT3 I (cO 1 I I)) dC (SX.u (i:=3) I (by kernel_rfl) (fA uT40 I zT3 I) dC (SX.q (i:=4) I (by kernel_rfl) (qL iT3 I (cO 0 I I)) dC (SX.u (i:=6) I (by kernel_rfl) (fA uT40 I zT3 I) dC (SX.q (i:=7) I (by kernel_rfl) (qL iT3 I (cO 1 I I)) dC (SX.u (i:=8) I (by kernel_rfl) (fA uT40 I zT3 I) dC (SX.q (i:=9) I (by kernel_rfl) (qL iT3 I (cO 0 I I)) dC (SX.u (i:=10) I (by kernel_rfl) (aD (m:=cx.dim) (n:=cy.dim) I I oM) dC ?_)))))))))
     refine SX.br2 5 12 (by kernel_rfl) ?_ ?_
     ·refine SB.o (i:=5) rfl (SO.callV rfl rfl (hid g8 _ cx.id cy.id hle48)) dC (.inr (by rintro _ _ _ ⟨rfl,rfl,rfl⟩; exact ⟨by exact Le.refl _,(by exact .refl _)⟩)) ?_
      rintro _ _ _ ⟨rfl,rfl,rfl⟩
      refine SX.u (i:=11) I (by kernel_rfl) (SU.build I (buildC40 _ _)) dC ?_
      refine SX.br1 12 (by kernel_rfl) ?_
      ·refine SB.o (i:=12) rfl (aL zeroValue40) dC (.inr (by rintro _ _ _ ⟨b13,rfl,rfl,rfl⟩; exact ⟨by exact Le.refl _,(by exact .cons _ (.refl _))⟩)) ?_
       rintro _ _ _ ⟨b13,rfl,rfl,rfl⟩
       refine SX.br1 13 (by kernel_rfl) ?_
       ·refine SB.on (i:=13) rfl (sK 0 zT40 rfl rfl rfl rfl rfl sB) (.inr (by rintro _ _ _ ⟨rfl,rfl⟩; exact ⟨by exact Le.refl _,(by exact .cons _ (.refl _))⟩)) ?_
        rintro _ _ _ ⟨rfl,rfl⟩
        refine SX.nil (by kernel_rfl) ?_
        exact ST.mid b13 sB I I trivial
     ·refine SB.o (i:=12) rfl (aL zeroValue40) dC (.inr (by rintro _ _ _ ⟨b13,rfl,rfl,rfl⟩; exact ⟨by exact Le.refl _,(by exact .cons _ (.refl _))⟩)) ?_
      rintro _ _ _ ⟨b13,rfl,rfl,rfl⟩
      refine SX.br1 5 (by kernel_rfl) ?_
      ·refine SB.o (i:=5) rfl (SO.callV rfl rfl (hid g8 _ cx.id cy.id hle48)) dC (.inr (by rintro _ _ _ ⟨rfl,rfl,rfl⟩; exact ⟨by exact Le.refl _,(by exact .cons _ (.refl _))⟩)) ?_
       rintro _ _ _ ⟨rfl,rfl,rfl⟩
       refine SX.u (i:=11) I (by kernel_rfl) (SU.build I (buildC40 _ _)) dC ?_
       refine SX.br1 13 (by kernel_rfl) ?_
       ·refine SB.on (i:=13) rfl (sK 0 zT40 rfl rfl rfl rfl rfl sB) (.inr (by rintro _ _ _ ⟨rfl,rfl⟩; exact ⟨by exact Le.refl _,(by exact .cons _ (.refl _))⟩)) ?_
        rintro _ _ _ ⟨rfl,rfl⟩
        refine SX.nil (by kernel_rfl) ?_
        exact ST.mid b13 sB I I trivial
    rintro b13 -
    try dsimp only
    refine SC.nilRow 42 2 ?_
    refine SC.cut (ι:=Value) (fun _=>[(2,pp b2 0),(3,pp b3 0),(4,pp b4 0),(7,(.func (.func 98) #[] #[pp b5 0,pp b6 0])),(8,pp b8 0),(44,.slice qa ra.length da),(45,vi ra.length),(46,vi k),(10,pp b10 0),(52,.slice qb rb.length db),(53,vi rb.length),(54,vi j),(12,pp b12 0),(13,pp b13 0)]) (fun _=>g8) (fun zv=>rowA encSide 42 zv (cx.sides.map (fun q : Side=>(⟨prodId (tabC a) (tabC b) q.cell cy.id,q.sign⟩ : Side))) :: pt b13 (.cells #[vi (prodId (tabC a) (tabC b) cx.id cy.id),vi (cx.dim + cy.dim),zv] 40 (0,0)) :: pt b12 (.cells #[vi cy.id,vi cy.dim,.slice yp cy.sides.length yc] 40 (0,0)) :: pt b10 (.cells #[vi cx.id,vi cx.dim,.slice xp cx.sides.length xc] 40 (0,0)) :: rowA encCell 40 ov1 acc1 :: pt b8 (.cells #[ov1] 31 (0,0)) :: pt b4 (.cells #[.slice none 0 0] 31 (0,0)) :: pt b3 (.cells #[.slice p2 b.length c2] 31 (0,0)) :: pt b2 (.cells #[.slice p1 a.length c1] 31 (0,0)) :: s) (fun _=>True) ?_ ?_
    ·refine SC.sR (lU (fA uT40 I zT38 I) (lK (qL iT38 I (cO 3 I I)) (lU (eN uT38 I) (lM I (SL.nT (bK ?_))))))
     refine oP (ι:=Nat × Value) (fun i=>[(2,pp b2 0),(3,pp b3 0),(4,pp b4 0),(7,(.func (.func 98) #[] #[pp b5 0,pp b6 0])),(8,pp b8 0),(44,.slice qa ra.length da),(45,vi ra.length),(46,vi k),(10,pp b10 0),(52,.slice qb rb.length db),(53,vi rb.length),(54,vi j),(12,pp b12 0),(13,pp b13 0),(71,.slice xp cx.sides.length xc),(72,vi cx.sides.length),(73,vi i.1)]) (fun _=>g8) (fun i=>rowA encSide 42 i.2 ((cx.sides.take i.1).map (fun q : Side=>(⟨prodId (tabC a) (tabC b) q.cell cy.id,q.sign⟩ : Side))) :: pt b13 (.cells #[vi (prodId (tabC a) (tabC b) cx.id cy.id),vi (cx.dim + cy.dim),i.2] 40 (0,0)) :: pt b12 (.cells #[vi cy.id,vi cy.dim,.slice yp cy.sides.length yc] 40 (0,0)) :: pt b10 (.cells #[vi cx.id,vi cx.dim,.slice xp cx.sides.length xc] 40 (0,0)) :: rowA encCell 40 ov1 acc1 :: pt b8 (.cells #[ov1] 31 (0,0)) :: pt b4 (.cells #[.slice none 0 0] 31 (0,0)) :: pt b3 (.cells #[.slice p2 b.length c2] 31 (0,0)) :: pt b2 (.cells #[.slice p1 a.length c1] 31 (0,0)) :: s) (fun i=>i.1 ≤ cx.sides.length) (fun i=>cx.sides.length - i.1) (0,.slice none 0 0)
      sB rfl rfl (Nat.zero_le _) ?_
     rintro ⟨m,zv⟩ hm
     dsimp only at hm ⊢
     refine SC.sR (lU (lS I I) (SL.nT (sQ ?_)))
     refine iP I (fun hlt3=>?_) (fun hlt3=>?_)
     ·have hml : m < cx.sides.length:=oM
      have hbx:=hxsl8.based oM
      have hgs : cx.sides[((m : Nat) : Int).toNat]? = some cx.sides[m]:=gE hml
      have htm : cx.sides.take (m + 1) = cx.sides.take m ++ [cx.sides[m]]:=tS hml
      have hzl : ((cx.sides.take m).map (fun q : Side=>(⟨prodId (tabC a) (tabC b) q.cell cy.id,q.sign⟩ : Side))).length = m:=by simp; omega
      generalize cx.sides[m] = e at *
      refine kP (tN (sQ (bK (SC.sR (lU (iA uT38 zT42 I I hbx oM sL) (lK (eA iT42 zT42 I hxsl8.rd hgs) (SL.bx (aL zeroValue42) fun b15=>?_)))))))
      refine SL.O2 (sK 0 zT42 I I I I I sB) ?_
      refine SL.nT ?_
      refine dW [12,13,14] [(0,2),(1,1),(2,2),(3,2),(4,1),(5,2),(6,1),(8,2),(9,1),(7,0),(10,2),(11,0),(12,0),(13,0),(14,0)] Tryz.mixed (by kernel_rfl) ?_
      refine pU rfl (fA uT40 rfl zT38 rfl) (pK rfl (qL iT38 rfl (cO 2 rfl rfl)) (pU rfl (mV rfl) (pU rfl (fA uT42 rfl zT3 rfl) (pK rfl (qL iT3 rfl (cO 0 rfl rfl)) (pU rfl (fA uT40 rfl zT3 rfl) (pK rfl (qL iT3 rfl (cO 3 rfl rfl)) (pU rfl (fA uT42 rfl zT3 rfl) (pK rfl (qL iT3 rfl (cO 0 rfl rfl)) (SP.o rfl (SO.callV rfl rfl (hid g8 _ e.cell cy.id hle48)) dC (.inr (by rintro _ _ _ ⟨rfl,rfl,rfl⟩; exact ⟨by exact Le.refl _,(by exact .refl _)⟩)) ?_)))))))))
      rintro _ _ _ ⟨rfl,rfl,rfl⟩
      refine pU rfl (SU.build rfl (buildS42 _ _)) (SP.o rfl (bS sty38 rfl rfl rfl (szs_mk sB) dC) dC (.inr (by rintro _ _ _ ⟨b88,rfl,rfl,rfl⟩; exact ⟨by exact Le.refl _,(by exact .cons _ (.refl _))⟩)) ?_)
      rintro _ _ _ ⟨b88,rfl,rfl,rfl⟩
      refine SP.o rfl (SO.app1 1 (((cx.sides.take (m + 1)).map (fun q : Side=>(⟨prodId (tabC a) (tabC b) q.cell cy.id,q.sign⟩ : Side))).flatMap encSide.enc) ((cx.sides.take (m + 1)).map (fun q : Side=>(⟨prodId (tabC a) (tabC b) q.cell cy.id,q.sign⟩ : Side))).length sty38 rfl rfl rfl rfl rfl sB (by rw [htm]; simp [encSide]; rfl) (by rw [htm]; simp) lN lN) dC (.inl dC) ?_
      rintro zv' _ _ ⟨rfl,rfl⟩
      refine SP.facts fun ⟨w0,hw0⟩=>?_
      obtain ⟨q',d',rfl⟩:=rowA_form (e:=encSide) (l:=(cx.sides.take (m + 1)).map (fun q : Side=>(⟨prodId (tabC a) (tabC b) q.cell cy.id,q.sign⟩ : Side))) (i:=1) hw0 rfl
      clear hw0 w0
      refine oU rfl (fA uT40 rfl zT38 rfl) dC (.inl dC) (SP.on rfl (SO.store1 2 zT38 rfl rfl rfl rfl (bE rfl) (by rfl)) (.inl dC) ?_)
      rintro _ _ _ ⟨rfl,rfl⟩
      refine pN (bN (tN (rG (lU (aD I I oM) (lM I (nL (dR (.cons _ (.refl _)) ?_)))))))
      exact gA (m + 1,.slice q' ((cx.sides.take (m + 1)).map (fun q : Side=>(⟨prodId (tabC a) (tabC b) q.cell cy.id,q.sign⟩ : Side))).length d') sB I I lN lN
     ·refine xI (tX (tX (bX ?_)))
      have hmm : cx.sides.take m = cx.sides:=tL oM
      rw [hmm]
      exact ST.mid zv sB I I trivial
    rintro zv1 -
    try dsimp only
    refine SC.cut (ι:=Value) (fun _=>[(2,pp b2 0),(3,pp b3 0),(4,pp b4 0),(7,(.func (.func 98) #[] #[pp b5 0,pp b6 0])),(8,pp b8 0),(44,.slice qa ra.length da),(45,vi ra.length),(46,vi k),(10,pp b10 0),(52,.slice qb rb.length db),(53,vi rb.length),(54,vi j),(12,pp b12 0),(13,pp b13 0)]) (fun _=>g8) (fun zv=>rowA encSide 42 zv (cx.sides.map (fun q : Side=>(⟨prodId (tabC a) (tabC b) q.cell cy.id,q.sign⟩ : Side)) ++ cy.sides.map (fun q : Side=>(⟨prodId (tabC a) (tabC b) cx.id q.cell,signC cx.dim * q.sign⟩ : Side))) :: pt b13 (.cells #[vi (prodId (tabC a) (tabC b) cx.id cy.id),vi (cx.dim + cy.dim),zv] 40 (0,0)) :: pt b12 (.cells #[vi cy.id,vi cy.dim,.slice yp cy.sides.length yc] 40 (0,0)) :: pt b10 (.cells #[vi cx.id,vi cx.dim,.slice xp cx.sides.length xc] 40 (0,0)) :: rowA encCell 40 ov1 acc1 :: pt b8 (.cells #[ov1] 31 (0,0)) :: pt b4 (.cells #[.slice none 0 0] 31 (0,0)) :: pt b3 (.cells #[.slice p2 b.length c2] 31 (0,0)) :: pt b2 (.cells #[.slice p1 a.length c1] 31 (0,0)) :: s) (fun _=>True) ?_ ?_
    ·refine SC.sR (lU (fA uT40 I zT38 I) (lK (qL iT38 I (cO 2 I I)) (lU (eN uT38 I) (lM I (SL.nT (bK ?_))))))
     refine oP (ι:=Nat × Value) (fun i=>[(2,pp b2 0),(3,pp b3 0),(4,pp b4 0),(7,(.func (.func 98) #[] #[pp b5 0,pp b6 0])),(8,pp b8 0),(44,.slice qa ra.length da),(45,vi ra.length),(46,vi k),(10,pp b10 0),(52,.slice qb rb.length db),(53,vi rb.length),(54,vi j),(12,pp b12 0),(13,pp b13 0),(93,.slice yp cy.sides.length yc),(94,vi cy.sides.length),(95,vi i.1)]) (fun _=>g8) (fun i=>rowA encSide 42 i.2 (cx.sides.map (fun q : Side=>(⟨prodId (tabC a) (tabC b) q.cell cy.id,q.sign⟩ : Side)) ++ (cy.sides.take i.1).map (fun q : Side=>(⟨prodId (tabC a) (tabC b) cx.id q.cell,signC cx.dim * q.sign⟩ : Side))) :: pt b13 (.cells #[vi (prodId (tabC a) (tabC b) cx.id cy.id),vi (cx.dim + cy.dim),i.2] 40 (0,0)) :: pt b12 (.cells #[vi cy.id,vi cy.dim,.slice yp cy.sides.length yc] 40 (0,0)) :: pt b10 (.cells #[vi cx.id,vi cx.dim,.slice xp cx.sides.length xc] 40 (0,0)) :: rowA encCell 40 ov1 acc1 :: pt b8 (.cells #[ov1] 31 (0,0)) :: pt b4 (.cells #[.slice none 0 0] 31 (0,0)) :: pt b3 (.cells #[.slice p2 b.length c2] 31 (0,0)) :: pt b2 (.cells #[.slice p1 a.length c1] 31 (0,0)) :: s) (fun i=>i.1 ≤ cy.sides.length) (fun i=>cy.sides.length - i.1) (0,zv1)
      sB rfl (by simp) (Nat.zero_le _) ?_
     rintro ⟨m,zv⟩ hm
     dsimp only at hm ⊢
     refine SC.sR (lU (lS I I) (SL.nT (sQ ?_)))
     refine iP I (fun hlt4=>?_) (fun hlt4=>?_)
     ·have hml4 : m < cy.sides.length:=oM
      have hby:=hysl.based oM
      have hgs : cy.sides[((m : Nat) : Int).toNat]? = some cy.sides[m]:=gE hml4
      have htm : cy.sides.take (m + 1) = cy.sides.take m ++ [cy.sides[m]]:=tS hml4
      have hesg:=sign_mul (signC_cases cx.dim) (hys _ (gM hml4))
      have hzl : (cx.sides.map (fun q : Side=>(⟨prodId (tabC a) (tabC b) q.cell cy.id,q.sign⟩ : Side)) ++ (cy.sides.take m).map (fun q : Side=>(⟨prodId (tabC a) (tabC b) cx.id q.cell,signC cx.dim * q.sign⟩ : Side))).length = cx.sides.length + m:=by simp; omega
      generalize cy.sides[m] = e at *
      refine kP (tN (sQ (bK (SC.sR (lU (iA uT38 zT42 I I hby oM sL) ?_)))))
      refine lK (eA iT42 zT42 I hysl.rd hgs) (SL.bx (aL zeroValue42) fun b17=>?_)
      refine SL.O2 (sK 0 zT42 I I I I I sB) ?_
      refine SL.nT ?_
      refine dW [16,17,18] [(0,2),(1,1),(2,2),(3,2),(4,1),(5,2),(6,1),(8,2),(9,1),(11,2),(12,1),(7,0),(10,0),(13,2),(14,2),(15,0),(16,0),(17,0),(18,0)] Tryz.mixed (by kernel_rfl) ?_
      refine pU rfl (fA uT40 rfl zT38 rfl) (pK rfl (qL iT38 rfl (cO 2 rfl rfl)) (pU rfl (mV rfl) (pU rfl (fA uT40 rfl zT3 rfl) (pK rfl (qL iT3 rfl (cO 4 rfl rfl)) (pU rfl (fA uT42 rfl zT3 rfl) (pK rfl (qL iT3 rfl (cO 0 rfl rfl)) (pU rfl (fA uT40 rfl zT3 rfl) (pK rfl (qL iT3 rfl (cO 4 rfl rfl)) (pU rfl (fA uT42 rfl zT3 rfl) (pK rfl (qL iT3 rfl (cO 0 rfl rfl)) (SP.o rfl (SO.callV rfl rfl (hid g8 _ cx.id e.cell hle48)) dC (.inr (by rintro _ _ _ ⟨rfl,rfl,rfl⟩; exact ⟨by exact Le.refl _,(by exact .refl _)⟩)) ?_)))))))))))
      rintro _ _ _ ⟨rfl,rfl,rfl⟩
      refine SP.o rfl (cL call96 rfl (sign_spec E g8 _ cx.dim)) dC (.inr (by rintro _ _ _ ⟨rfl,rfl,rfl⟩; exact ⟨by exact Le.refl _,(by exact .refl _)⟩)) ?_
      rintro _ _ _ ⟨rfl,rfl,rfl⟩
      refine pU rfl (SU.mul (m:=signC cx.dim) (n:=e.sign) rfl rfl oM) (pU rfl (SU.build rfl (buildS42 _ _)) (SP.o rfl (bS sty38 rfl rfl rfl (szs_mk sB) dC) dC (.inr (by rintro _ _ _ ⟨b114,rfl,rfl,rfl⟩; exact ⟨by exact Le.refl _,(by exact .cons _ (.refl _))⟩)) ?_))
      rintro _ _ _ ⟨b114,rfl,rfl,rfl⟩
      refine SP.o rfl (SO.app1 1 ((cx.sides.map (fun q : Side=>(⟨prodId (tabC a) (tabC b) q.cell cy.id,q.sign⟩ : Side)) ++ (cy.sides.take (m + 1)).map (fun q : Side=>(⟨prodId (tabC a) (tabC b) cx.id q.cell,signC cx.dim * q.sign⟩ : Side))).flatMap encSide.enc) (cx.sides.map (fun q : Side=>(⟨prodId (tabC a) (tabC b) q.cell cy.id,q.sign⟩ : Side)) ++ (cy.sides.take (m + 1)).map (fun q : Side=>(⟨prodId (tabC a) (tabC b) cx.id q.cell,signC cx.dim * q.sign⟩ : Side))).length sty38 rfl rfl rfl rfl rfl sB (by rw [htm]; simp [encSide]; rfl) (by rw [htm]; simp; omega) (by rw [hzl]; omega) (by rw [hzl]; omega)) dC (.inl dC) ?_
      rintro zv' _ _ ⟨rfl,rfl⟩
      refine SP.facts fun ⟨w0,hw0⟩=>?_
      obtain ⟨q',d',rfl⟩:=rowA_form (e:=encSide) (l:=(cx.sides.map (fun q : Side=>(⟨prodId (tabC a) (tabC b) q.cell cy.id,q.sign⟩ : Side)) ++ (cy.sides.take (m + 1)).map (fun q : Side=>(⟨prodId (tabC a) (tabC b) cx.id q.cell,signC cx.dim * q.sign⟩ : Side)))) (i:=1) hw0 rfl
      clear hw0 w0
      refine oU rfl (fA uT40 rfl zT38 rfl) dC (.inl dC) (SP.on rfl (SO.store1 2 zT38 rfl rfl rfl rfl (bE rfl) (by rfl)) (.inl dC) ?_)
      rintro _ _ _ ⟨rfl,rfl⟩
      refine pN (bN (tN (rG (lU (aD I I oM) (lM I (nL (dR (.cons _ (.refl _)) ?_)))))))
      exact gA (m + 1,.slice q' (cx.sides.map (fun q : Side=>(⟨prodId (tabC a) (tabC b) q.cell cy.id,q.sign⟩ : Side)) ++ (cy.sides.take (m + 1)).map (fun q : Side=>(⟨prodId (tabC a) (tabC b) cx.id q.cell,signC cx.dim * q.sign⟩ : Side))).length d') sB I I lN lN
     ·refine xI (tX (tX (bX ?_)))
      have hmm : cy.sides.take m = cy.sides:=tL oM
      rw [hmm]
      exact ST.mid zv sB I I trivial
    rintro zv2 -
    try dsimp only
    have hal : acc1.length ≤ 16004000:=by
     have h1:=hacc1.length
     rw [List.length_append,flatMap_len,List.length_map,List.length_take,List.length_take,canonC_length,canonC_length] at h1
     have h2 : min k a.length * b.length ≤ 4000 * 4000:=Nat.mul_le_mul oM hlb
     omega
    refine fS fun g9 hle9 hrow9=>?_
    obtain ⟨q9,d9,rfl⟩:=Sl.form hrow9
    refine rG (lU (fA uT31 I zT29 I) (lK (qL iT29 I (cO 4 I I)) (lK (qV 0 iT40 zT40 I I I) (lW (bS sty29 I I I (szs_mk sB) dC) ?_))))
    rintro _ _ _ ⟨b121,rfl,rfl,rfl⟩
    refine lW (SO.app1 3 ((acc1 ++ [(⟨prodId (tabC a) (tabC b) cx.id cy.id,cx.dim + cy.dim,q9,(cx.sides.map (fun q : Side=>(⟨prodId (tabC a) (tabC b) q.cell cy.id,q.sign⟩ : Side)) ++ cy.sides.map (fun q : Side=>(⟨prodId (tabC a) (tabC b) cx.id q.cell,signC cx.dim * q.sign⟩ : Side))).length,d9⟩ : Rc)]).flatMap encCell.enc) (acc1 ++ [(⟨prodId (tabC a) (tabC b) cx.id cy.id,cx.dim + cy.dim,q9,(cx.sides.map (fun q : Side=>(⟨prodId (tabC a) (tabC b) q.cell cy.id,q.sign⟩ : Side)) ++ cy.sides.map (fun q : Side=>(⟨prodId (tabC a) (tabC b) cx.id q.cell,signC cx.dim * q.sign⟩ : Side))).length,d9⟩ : Rc)]).length sty29 rfl rfl rfl rfl rfl sB (by (simp [encCell]; rfl)) (by simp) lN lN) ?_
    rintro ov' _ _ ⟨rfl,rfl⟩
    refine SL.facts fun ⟨w0,hw0⟩=>?_
    obtain ⟨q',d',rfl⟩:=rowA_form (e:=encCell) (l:=acc1 ++ [(⟨prodId (tabC a) (tabC b) cx.id cy.id,cx.dim + cy.dim,q9,(cx.sides.map (fun q : Side=>(⟨prodId (tabC a) (tabC b) q.cell cy.id,q.sign⟩ : Side)) ++ cy.sides.map (fun q : Side=>(⟨prodId (tabC a) (tabC b) cx.id q.cell,signC cx.dim * q.sign⟩ : Side))).length,d9⟩ : Rc)]) (i:=3) hw0 rfl
    clear hw0 w0
    refine lU (fA uT31 I zT29 I) (SL.O2 (sK 4 zT29 I I I I I sB) ?_)
    refine nL (bN (tN (rG (lU (aD I I oM) (lM I (nL (dR (.cons _ (.cons _ (.refl _))) ?_)))))))
    exact gA (j + 1,_,acc1 ++ [(⟨prodId (tabC a) (tabC b) cx.id cy.id,cx.dim + cy.dim,q9,(cx.sides.map (fun q : Side=>(⟨prodId (tabC a) (tabC b) q.cell cy.id,q.sign⟩ : Side)) ++ cy.sides.map (fun q : Side=>(⟨prodId (tabC a) (tabC b) cx.id q.cell,signC cx.dim * q.sign⟩ : Side))).length,d9⟩ : Rc)],g9) sB I I ⟨lN,hle8.trans hle9,by
     rw [htj,List.map_append,← List.append_assoc]
     exact (hacc1.mono fun _ _=>CellR.mono hle9).append ⟨⟨I,I,hrow9⟩,trivial⟩⟩ lN
   ·refine xI (tX (tX (bX (bN (tN (rG (lU (aD I I oM) (lM I (nL ?_)))))))))
    have hjj : (canonC b).take j = canonC b:=tL oM
    rw [hjj] at hacc1
    refine dR (.cons _ (.refl _)) ?_
    exact gA (k + 1,ov1,acc1,g8) sB I I ⟨lN,hle6.trans (hle7.trans hle8),by rw [htk,List.flatMap_append]; simpa using hacc1⟩ lN
  ·have hkk : (canonC a).take k = canonC a:=tL oM
   rw [hkk] at hacc0
   have hfit : Fits (prodAll a b):=by
    refine ⟨?_,fun c hc=>?_⟩
    ·unfold prodAll
     rw [flatMap_len,canonC_length,canonC_length]
     have h2 : a.length * b.length ≤ 4000 * 4000:=Nat.mul_le_mul hla hlb
     omega
    ·unfold prodAll at hc
     obtain ⟨x,hx,hc⟩:=List.mem_flatMap.1 hc
     obtain ⟨y,hy,rfl⟩:=List.mem_map.1 hc
     have h1:=(form_ok (hfa x hx)).1
     have h2:=(form_ok (hfb y hy)).1
     simp only [prodCell,List.length_append,List.length_map]
     omega
   have hlast:=hle4.trans (hle5.trans hle6)
   have hres : prodC a b = if (checkC (prodAll a b)).2 = 0 then canonC (prodAll a b) else []:=by unfold prodC; rw [if_neg (by rw [hbad]; exact Bool.false_ne_true)]
   refine xI (tX (tX (bX (tN (sQ (sQ (fS fun g9 hle9 hrow9=>?_)))))))
   obtain ⟨q9,d9,rfl⟩:=Sl.form hrow9
   have hout : Cells g9 (.slice q9 acc0.length d9) (prodAll a b):=⟨acc0,hrow9,hacc0.mono fun _ _=>CellR.mono hle9⟩
   refine rG (lK (qV 0 iT31 zT31 I I I) (lW (cL call97 I (right_spec E g9 _ _ (prodAll a b) hout hfit)) ?_))
   rintro _ _ _ ⟨rfl,rfl,rfl⟩
   refine lU (SU.notP I) (SL.nT ?_)
   refine iP I (fun hr=>?_) (fun hr=>?_)
   ·refine SC.sR (lU (SU.build I (buildE31)) (SL.O2 (sK 1 zT31 I I I I I sB) ?_))
    refine SL.nT (rE (tR ?_))
    exact ST.retCD 1 s (.inl I) results32 I iT31 zT31 I I (.cons _ (.cons _ (.cons _ (.cons _ (.refl _))))) ⟨I,hlast.trans hle9,_,I,by rw [hres,if_neg hr]; exact ⟨[],Sl.nil g9 _,trivial⟩⟩
   ·refine kP (tN (SC.sR (lK (qV 0 iT31 zT31 I I I) (lW (cL call16 I (canon_spec E g9 _ _ (prodAll a b) hout hfit)) ?_))))
    rintro _ g10 _ ⟨rfl,hle10,uo,rfl,ro,hro,hallo⟩
    obtain ⟨qo,do',rfl⟩:=hro.form
    refine SL.O2 (sK 1 zT31 I I I I I sB) ?_
    refine SL.nT (rE ?_)
    exact ST.retCD 1 s (.inl I) results32 I iT31 zT31 I I (.cons _ (.cons _ (.cons _ (.cons _ (.refl _))))) ⟨I,hlast.trans (hle9.trans hle10),_,I,by rw [hres,if_pos (Decidable.of_not_not hr)]; exact ⟨ro,hro,hallo⟩⟩
theorem cloneI (E : World) (g : PH) (s : Own) (v : Value) (l : List Int) (hv : Ints g v l) (hn : l.length < 17592186044416) :
  Ctr Tryz.prog E 86 #[v] g s (fun r g' s'=>g = g' ∧ s' = rowA encInt 3 r l :: s):=by
 obtain ⟨p,c,rfl⟩:=SlA.form hv
 refine Ctr.of (args:=[.slice p l.length c]) func86 I ntmps86 (bE I) ?_
 refine SC.sR (lA I (SL.nT (sQ (SC.sR (lM I (lU (SU.eqlNil uT27 I I) (SL.nT ?_)))))))
 refine iQ I (fun hp=>?_) (fun hp=>?_)
 ·refine SC.sR (lA I (SL.nT (rE (tR ?_))))
  have hl : l = []:=by
   cases l with
   | nil=>rfl
   | cons x r =>
    have hb:=SlA.based hv (by simp)
    cases p with
    | none=>simp [based] at hb
    | some q=>simp at hp
  subst hl
  refine ST.nilRow 3 1 ?_
  exact ST.ret1 (.inl I) results86 I ⟨I,I⟩
 ·refine kP (tN (SC.sR (lW (bS sty27 I I I (szs_mk trivial) dC) ?_)))
  rintro _ _ _ ⟨b5,rfl,rfl,rfl⟩
  refine SL.emptyRow 3 1 (some ⟨b5,0,none⟩) (lM I (lW (SO.appendE (m:=l.length) 0 l.length (l.flatMap encInt.enc) sty27 I I I I I (Sl.rd hv) (encInt.length l) (encInt.ones l) oM (by simp) oM oM) ?_))
  rintro r7 _ _ ⟨rfl,rfl⟩
  refine lA I (SL.nT (rE (dR (s':=rowA encInt 3 r7 l :: s) (.cons_cons _ (.cons _ (.refl _))) ?_)))
  exact ST.ret1 (.inl I) results86 I ⟨I,I⟩
def orI : List Int → Int
 | []=>0
 | a :: r=>if a ≠ 0 then a else orI r
def cmpL : List Int → List Int → Int
 | [],[]=>0
 | [],_ :: _=>-1
 | _ :: _,[]=>1
 | a :: r,b :: t=>if cmpI a b ≠ 0 then cmpI a b else cmpL r t
def compareC (a b : List Int) : Int:=if cmpI a.length b.length ≠ 0 then cmpI a.length b.length else cmpL a b
theorem or_spec (E : World) (g : PH) (s : Own) (v : Value) (l : List Int) (hv : Rd g s v (l.flatMap encInt.enc)) (hf : ∃ p c,v = .slice p l.length c) (hb : 0 < l.length → based v = true) (hl : l.length < 1099511627776) :
  Ctr Tryz.prog E 143 #[v] g s (fun r g' s'=>r = vi (orI l) ∧ g = g' ∧ s = s'):=by
 obtain ⟨p,c,rfl⟩:=hf
 refine Ctr.of (args:=[.slice p l.length c]) func143 I ntmps143 (bE I) ?_
 refine SC.sR (lA I (SL.nT (SC.sR (lA I (SL.nT (sQ (SC.sR (lM I (lU (eN uT27 I) (lM I (SL.nT (bK ?_))))))))))))
 refine oP (ι:=Nat) (fun k=>[(3,vi 0),(6,.slice p l.length c),(7,vi l.length),(8,vi k)]) (fun _=>g) (fun _=>s) (fun k=>k ≤ l.length ∧ orI l = orI (l.drop k)) (fun k=>l.length - k) 0
  sB rfl rfl ⟨Nat.zero_le _,by simp⟩ ?_
 rintro k ⟨hk,heq⟩
 refine SC.sR (lU (lS I I) (SL.nT (sQ ?_)))
 refine iP I (fun hlt=>?_) (fun hlt=>?_)
 ·have hkl : k < l.length:=oM
  have hb1:=hb oM
  have hgx : l[((k : Nat) : Int).toNat]? = some l[k]:=gE hkl
  have hdrop : l.drop k = l[k] :: l.drop (k + 1):=List.drop_eq_getElem_cons hkl
  generalize l[k] = x at *
  rw [hdrop] at heq
  refine kP (tN (sQ (bK (SC.sR (lU (iA uT27 zT3 I I hb1 oM sL) (lK (eB iT3 I hv hgx I) (lA I (SL.nT (SC.sR (lM I (lM I (lU (nQ I I) (SL.nT ?_)))))))))))))
  refine iP I (fun hd=>?_) (fun hd=>?_)
  ·refine SC.sR (lM I (lA I (SL.nT (rE (bR (tR (tR (bR (tR ?_)))))))))
   exact ST.ret1 (.inl I) results143 I ⟨by rw [heq,orI,if_pos hd],I,I⟩
  ·refine kP (bN (tN (rG (lU (aD I I oM) (lM I (nL ?_))))))
   exact gA (k + 1) sB I I ⟨oM,by rw [heq,orI,if_neg hd]⟩ oM
 ·refine xI (tX (tX (bX (tN (SC.sR (lM I (lA I (SL.nT (rE ?_)))))))))
  have hkk : l.drop k = []:=List.drop_of_length_le oM
  rw [hkk] at heq
  exact ST.ret1 (.inl rfl) results143 rfl ⟨by rw [heq]; rfl,rfl,rfl⟩
theorem equalInts (E : World) (g : PH) (s : Own) (v u : Value) (l m : List Int) (hv : Ints g v l) (hu : Ints g u m) (hl : l.length < 1099511627776) :
  Ctr Tryz.prog E 93 #[v,u] g s (fun r g' s'=>r = vb (decide (l = m)) ∧ g = g' ∧ s = s'):=by
 obtain ⟨p,c,rfl⟩:=SlA.form hv
 obtain ⟨q,d,rfl⟩:=SlA.form hu
 refine Ctr.of (args:=[.slice p l.length c,.slice q m.length d]) func93 I ntmps93 (bE I) ?_
 refine SC.sR (lA I (SL.nT (sQ (SC.sR (lM I (lU (eN uT27 I) (lM I (lU (eN uT27 I) (lU (nQ I I) (SL.nT ?_))))))))))
 refine iP I (fun hne=>?_) (fun hne=>?_)
 ·refine SC.sR (lA I (SL.nT (rE (tR ?_))))
  exact ST.ret1 (.inl I) results93 I ⟨by have : l ≠ m:=fun e=>hne (by rw [e]); simp [this],I,I⟩
 ·refine kP (tN (sQ (SC.sR (lM I (lU (eN uT27 I) (lM I (SL.nT (bK ?_))))))))
  have hlen : l.length = m.length:=oM
  refine oP (ι:=Nat) (fun k=>[(0,.slice p l.length c),(1,.slice q m.length d),(12,vi l.length),(13,vi k)]) (fun _=>g) (fun _=>s) (fun k=>k ≤ l.length ∧ l.take k = m.take k) (fun k=>l.length - k) 0
   sB rfl rfl ⟨Nat.zero_le _,by simp⟩ ?_
  rintro k ⟨hk,heq⟩
  refine SC.sR (lU (lS I I) (SL.nT (sQ ?_)))
  refine iP I (fun hlt=>?_) (fun hlt=>?_)
  ·have hkl : k < l.length:=oM
   have hkm : k < m.length:=oM
   have hb1:=SlA.based hv oM
   have hb2:=SlA.based hu oM
   refine kP (tN (sQ (bK (SC.sR (lM I (lA I (SL.nT (sQ ?_))))))))
   refine dW [] [(0,2),(1,2),(2,2),(3,1),(4,2),(5,2),(6,2),(7,1),(8,2)] Tryz.mixed (by kernel_rfl) ?_
   refine pU I (mV I) (pU I (mV I) (pU I (iA uT27 zT3 I I hb1 oM sL) ?_))
   refine pQ I (eB iT3 I (SlA.rd hv) (gE hkl) I) dC ?_
   refine pU I (mV I) (pU I (mV I) (pU I (iA uT27 zT3 I I hb2 oM sL) ?_))
   refine pQ I (eB iT3 I (SlA.rd hu) (gE hkm) I) dC ?_
   refine pU I (nQ I I) (pN (tN ?_))
   refine iP I (fun hd=>?_) (fun hd=>?_)
   ·refine SC.sR (lA I (SL.nT (rE (bR (tR (tR (bR (tR ?_))))))))
    exact ST.ret1 (.inl I) results93 I ⟨by have : l ≠ m:=fun e=>hd (by simp [e]); simp [this],I,I⟩
   ·refine kP (bN (tN (rG (lU (aD I I oM) (lM I (nL ?_))))))
    exact gA (k + 1) sB I I ⟨oM,take_eq_succ hkl hkm heq (Decidable.of_not_not hd)⟩ oM
  ·refine xI (tX (tX (bX (tN (SC.sR (lA I (SL.nT (rE ?_))))))))
   have hkk : k = l.length:=oM
   subst hkk
   have : l = m:=take_eq_all hlen heq
   exact ST.ret1 (.inl I) results93 I ⟨by simp [this],I,I⟩
theorem compareInts (E : World) (g : PH) (s : Own) (v u : Value) (l m : List Int) (hv : Ints g v l) (hu : Ints g u m) (hl : l.length < 1099511627776) :
  Ctr Tryz.prog E 144 #[v,u] g s (fun r g' s'=>r = vi (cmpL l m) ∧ g = g' ∧ s = s'):=by
 obtain ⟨p,c,rfl⟩:=SlA.form hv
 obtain ⟨q,d,rfl⟩:=SlA.form hu
 refine Ctr.of (args:=[.slice p l.length c,.slice q m.length d]) func144 I ntmps144 (bE I) ?_
 refine SC.sR (lA I (SL.nT (sQ (SC.sR (lM I (lU (eN uT27 I) (lM I (SL.nT (bK ?_)))))))))
 refine oP (ι:=Nat) (fun k=>[(0,.slice p l.length c),(1,.slice q m.length d),(9,.slice p l.length c),(10,vi l.length),(11,vi k)]) (fun _=>g) (fun _=>s) (fun k=>k ≤ l.length ∧ k ≤ m.length ∧ cmpL l m = cmpL (l.drop k) (m.drop k)) (fun k=>l.length - k) 0
  sB rfl rfl ⟨Nat.zero_le _,Nat.zero_le _,by simp⟩ ?_
 rintro k ⟨hk,hkm,heq⟩
 refine SC.sR (lU (lS I I) (SL.nT (sQ ?_)))
 refine iP I (fun hlt=>?_) (fun hlt=>?_)
 ·have hkl : k < l.length:=oM
  have hb1:=SlA.based hv oM
  have hgx : l[((k : Nat) : Int).toNat]? = some l[k]:=gE hkl
  have hdrop : l.drop k = l[k] :: l.drop (k + 1):=List.drop_eq_getElem_cons hkl
  generalize l[k] = x at *
  rw [hdrop] at heq
  refine kP (tN (sQ (bK (SC.sR (lM I (lU (iA uT27 zT3 I I hb1 oM sL) (lK (eB iT3 I (SlA.rd hv) hgx I) (lA I (lA I (SL.nT (sQ (SC.sR (lM I (lM I (lU (eN uT27 I) (lU (gQ I I) (SL.nT ?_)))))))))))))))))
  refine iP I (fun hge=>?_) (fun hge=>?_)
  ·refine SC.sR (lA I (SL.nT (rE (tR (bR (tR (tR (bR (tR ?_)))))))))
   have hmk : m.drop k = []:=List.drop_of_length_le oM
   rw [hmk] at heq
   exact ST.ret1 (.inl rfl) results144 rfl ⟨by rw [heq]; rfl,rfl,rfl⟩
  ·have hkm2 : k < m.length:=oM
   have hb2:=SlA.based hu oM
   have hgy : m[((k : Nat) : Int).toNat]? = some m[k]:=gE hkm2
   have hdrop2 : m.drop k = m[k] :: m.drop (k + 1):=List.drop_eq_getElem_cons hkm2
   generalize m[k] = y at *
   rw [hdrop2] at heq
   refine kP (tN (SC.sR (lM I (lM I (lU (iA uT27 zT3 I I hb2 oM sL) (lK (eB iT3 I (SlA.rd hu) hgy I) (lA I (SL.nT (SC.sR (lM I (lM I (lW (cL call118 I (compare_spec E g _ x y)) ?_))))))))))))
   rintro _ _ _ ⟨rfl,rfl,rfl⟩
   refine lA I (SL.nT (SC.sR (lM I (lU (nQ I I) (SL.nT ?_)))))
   refine iP I (fun hd=>?_) (fun hd=>?_)
   ·refine SC.sR (lM I (lA I (SL.nT (rE (bR (tR (tR (bR (tR ?_)))))))))
    exact ST.ret1 (.inl I) results144 I ⟨by rw [heq,cmpL,if_pos hd],I,I⟩
   ·refine kP (bN (tN (rG (lU (aD I I oM) (lM I (nL ?_))))))
    exact gA (k + 1) sB I I ⟨oM,oM,by rw [heq,cmpL,if_neg hd]⟩ oM
 ·refine xI (tX (tX (bX (tN (sQ (SC.sR (lM I (lU (eN uT27 I) (lM I (lU (eN uT27 I) (lU (lS I I) (SL.nT ?_))))))))))))
  have hkk : l.drop k = []:=List.drop_of_length_le oM
  rw [hkk] at heq
  refine iP I (fun hll=>?_) (fun hll=>?_)
  ·refine SC.sR (lA I (SL.nT (rE (tR ?_))))
   have hkm2 : k < m.length:=oM
   have hdrop2 : m.drop k = m[k] :: m.drop (k + 1):=List.drop_eq_getElem_cons hkm2
   rw [hdrop2] at heq
   exact ST.ret1 (.inl rfl) results144 rfl ⟨by rw [heq]; rfl,rfl,rfl⟩
  ·refine kP (tN (SC.sR (lA I (SL.nT (rE ?_)))))
   have hmk : m.drop k = []:=List.drop_of_length_le oM
   rw [hmk] at heq
   exact ST.ret1 (.inl rfl) results144 rfl ⟨by rw [heq]; rfl,rfl,rfl⟩
theorem compareSets (E : World) (g : PH) (s : Own) (v u : Value) (l m : List Int) (hv : Ints g v l) (hu : Ints g u m) (hl : l.length < 1099511627776) :
  Ctr Tryz.prog E 91 #[v,u] g s (fun r g' s'=>r = vi (compareC l m) ∧ g = g' ∧ s = s'):=by
 obtain ⟨p,c,rfl⟩:=SlA.form hv
 obtain ⟨q,d,rfl⟩:=SlA.form hu
 refine Ctr.of (args:=[.slice p l.length c,.slice q m.length d]) func91 I ntmps91 (bE I) ?_
 refine SC.sR (lA I (SL.nT (SC.sR (lM I (lU (eN uT27 I) (lM I (lU (eN uT27 I) (lW (cL call118 I (compare_spec E g _ l.length m.length)) ?_))))))))
 rintro _ _ _ ⟨rfl,rfl,rfl⟩
 refine lM I (lM I (lW (cL call144 I (compareInts E g _ _ _ l m hv hu hl)) ?_))
 rintro _ _ _ ⟨rfl,rfl,rfl⟩
 refine lW (bS sty27 I I I (szs_mk sB) dC) ?_
 rintro _ _ _ ⟨b13,rfl,rfl,rfl⟩
 refine lW (cL call143 I (or_spec E g _ _ [cmpI l.length m.length,cmpL l m] (Rd.pt 0 I) ⟨_,_,I⟩ (fun _=>I) (by simp))) ?_
 rintro _ _ _ ⟨rfl,rfl,rfl⟩
 refine lA I (SL.nT (rE (dR (s':=s) (.cons _ (.refl _)) ?_)))
 exact ST.ret1 (.inl I) results91 I ⟨by unfold compareC; simp only [orI]; split <;> simp_all,I,I⟩
end Go.Proofs.YtkdibcicncjpdaaGreatDoor
