/-
  The order of cells, and of sides within cells, plays no part: the law CellsOrder returns true, for every seed, every probe and every number.
-/
import Derived.Test.YtkdibcicncjpdaaGreatDoorOr10
import Derived.Test.YtkdibcicncjpdaaGreatDoorOr05
import Derived.Test.YtkdibcicncjpdaaGreatDoorOr11
import Derived.Test.YtkdibcicncjpdaaGreatDoorOr07
import Derived.Test.YtkdibcicncjpdaaGreatDoorTie
import Derived.Test.YtkdibcicncjpdaaGreatDoorCards
import Derived.LaidMore
import Derived.Lay
import Derived.SevenTiedAt
import Derived.Stop.Joined
set_option linter.unusedSimpArgs false
set_option linter.unusedVariables false
namespace Go.Proofs.YtkdibcicncjpdaaGreatDoor
open _root_.Go.Proofs.Tryz _root_.Go.Proofs.YtkdibcicncjpdaaGreatDoor.Tryz
open Go Go.Sy Go.Pl Go.Proofs
theorem ins_map {α β : Type} {ka : α → Int} {kb : β → Int} {f : α → β} (h : ∀ a,kb (f a) = ka a) (x : α) : ∀ l : List α,ins kb (f x) (l.map f) = (ins ka x l).map f
 | []=>rfl
 | y :: r=>by
  simp only [List.map_cons,ins,h]
  split
  ·rfl
  ·rw [ins_map h x r]; rfl
theorem sortBy_map {α β : Type} {ka : α → Int} {kb : β → Int} {f : α → β} (h : ∀ a,kb (f a) = ka a) : ∀ l : List α,sortBy kb (l.map f) = (sortBy ka l).map f
 | []=>rfl
 | x :: r=>by
  simp only [List.map_cons,sortBy]
  rw [sortBy_map h r,ins_map h]
theorem sortPerm {α : Type} {key : α → Int} (l : List α) : (sortBy key l).Perm l:=by
 induction l with
 | nil=>exact .refl _
 | cons x r ih =>
  have h : ∀ m : List α,(ins key x m).Perm (x :: m):=by
   intro m
   induction m with
   | nil=>exact .refl _
   | cons y t iht =>
    simp only [ins]
    split
    ·exact .refl _
    ·exact (List.Perm.cons _ iht).trans (List.Perm.swap _ _ _)
  exact (h _).trans (List.Perm.cons _ ih)
theorem sortBy_uniq {α : Type} {key : α → Int} {l m : List α} (h : l.Perm m) (hn : (l.map key).Nodup) : sortBy key l = sortBy key m:=by
 have hst : ∀ q : List α,(q.map key).Nodup → (sortBy key q).Pairwise fun a b=>key a < key b:=fun q hq=>by
  have h1:=sortBy_srt (key:=key) q
  have h2 : ((sortBy key q).map key).Nodup:=((sortPerm q).map key).symm.nodup hq
  have h3 : (sortBy key q).Pairwise fun a b=>key a ≠ key b:=by
   rw [List.nodup_iff_pairwise_ne,List.pairwise_map] at h2
   exact h2
  exact (h1.and h3).imp fun h=>by omega
 have hm : (m.map key).Nodup:=(h.map key).nodup hn
 refine List.Perm.eq_of_pairwise (le:=fun a b=>key a < key b) (fun a b _ _ h1 h2=>by omega) (hst l hn) (hst m hm) ?_
 exact (sortPerm l).trans (h.trans (sortPerm m).symm)
def Dif (l : List Cl) : Prop:=(l.map Cl.id).Nodup ∧ ∀ c ∈ l,(c.sides.map Side.cell).Nodup
theorem normC_sh {a b : Cl} (h : ShC a b) (hn : (a.sides.map Side.cell).Nodup) : normC a = normC b:=by
 obtain ⟨h1,h2,h3⟩:=h
 unfold normC
 rw [h1,h2,sortBy_uniq h3 hn]
theorem canonC_map (l : List Cl) : canonC l = sortBy Cl.id (l.map normC):=(sortBy_map (ka:=Cl.id) (kb:=Cl.id) (f:=normC) (fun _=>rfl) l).symm
theorem norm_all2 : ∀ {l m : List Cl},All2 ShC l m → (∀ c ∈ l,(c.sides.map Side.cell).Nodup) → l.map normC = m.map normC
 | [],[],_,_=>rfl
 | a :: l,b :: m,h,hn=>by
  rw [List.map_cons,List.map_cons,normC_sh h.1 (hn a (by simp)),norm_all2 h.2 fun c hc=>hn c (by simp [hc])]
 | [],_ :: _,h,_=>h.elim
 | _ :: _,[],h,_=>h.elim
theorem canonC_sh {l m : List Cl} (h : ShL l m) (hd : Dif l) : canonC l = canonC m:=by
 obtain ⟨l1,hp,ha⟩:=h
 have h1 : l1.map normC = m.map normC:=norm_all2 ha fun c hc=>hd.2 c (hp.mem_iff.1 hc)
 rw [canonC_map,canonC_map,← h1]
 refine sortBy_uniq (hp.symm.map normC) ?_
 rw [List.map_map]
 exact hd.1
theorem ShL.length {l m : List Cl} (h : ShL l m) : l.length = m.length:=by
 obtain ⟨l1,hp,ha⟩:=h
 rw [← hp.length_eq,ha.length]
theorem nodup_succ {α : Type} {l : List α} {p : Nat} (h : p < l.length) (h1 : (l.take p).Nodup) (h2 : ∀ q (hq : q < p),l[p] ≠ l[q]'oM) : (l.take (p + 1)).Nodup:=by
 rw [tS h,List.nodup_append]
 refine ⟨h1,by simp,fun a ha b hb=>?_⟩
 simp at hb
 subst hb
 obtain ⟨q,hq,rfl⟩:=List.getElem_of_mem ha
 rw [List.length_take] at hq
 rw [List.getElem_take]
 exact (h2 q oM).symm
set_option maxRecDepth 100000
set_option maxHeartbeats 1000000
theorem equal_refl {m l : List Cl} (E : World) (g : PH) (s : Own) (v u : Value) (hv : Cells g v l) (hu : Cells g u m) (hl : Fits l) (hm : Fits m) (he : canonC l = canonC m) :
  Ctr Tryz.prog E 14 #[.agg #[v],.agg #[u]] g s (fun r g' s'=>r = vb true ∧ g = g' ∧ s = s') :=
 (equal_spec E g s v u l m hv hu hl hm).mono fun _ _ _ ⟨h1,h2⟩=>⟨by rw [h1,decide_eq_true he],h2⟩
theorem half_len (n : Nat) (h : n < 1099511627776) : IntKind.i64.wrap ((n : Int).tdiv 2) = ((n / 2 : Nat) : Int):=by
 rw [Int.tdiv_eq_ediv_of_nonneg oM]
 have : ((n : Int) / 2) = ((n / 2 : Nat) : Int):=oM
 rw [this]
 exact IntWalk.i64_in _ oM
theorem cellsOrder_spec (E : World) (hE : E.drawn = 0) (g : PH) (s : Own) (v : Value) (kd y : Int) (ls : List (List Int)) (a0 a1 a2 n : Int) (hv : Lists g v ls) :
  Ctr Tryz.prog E 4 #[.agg #[vi kd,v,vi y],.agg #[vi a0,vi a1,vi a2],vi n] g s (fun r g' s'=>r = vb true ∧ s = s' ∧ Le g g'):=by
 obtain ⟨p,nn,c,rfl⟩ : ∃ p n c,v = .slice p n c:=by
  obtain ⟨rs0,hrs0,_⟩:=hv
  obtain ⟨p,c,rfl⟩:=SlA.form hrs0
  exact ⟨_,_,_,I⟩
 have hsm:=(madeC_small kd ls y).room
 have hmade:=fun g s v hv=>made_spec E g s v kd y ls hv
 generalize madeC kd ls y = M at *
 have hra : Room 5002 4000003 (spoilC M a0 a1 a2):=(spoilC_room hsm a0 a1 a2).mono dC dC
 have hspa:=fun g s v hv=>spoiled_spec E g s v M a0 a1 a2 hv (hsm.fits dC dC)
 generalize spoilC M a0 a1 a2 = A at *
 have hfa:=hra.fits dC dC
 have hfl:=hfa.1
 refine Ctr.of (args:=[.agg #[vi kd,.slice p nn c,vi y],.agg #[vi a0,vi a1,vi a2],vi n]) func4 I ntmps4 (bE I) ?_
 refine SC.sR (SL.bx (bO I) fun b3=>?_)
 refine SL.bx (bO I) fun b4=>?_
 refine lA I (SL.nT (SC.sR (lW (cL call6 I (sanity_spec E hE g _)) ?_)))
 rintro _ g1 _ ⟨rfl,rfl,hle1⟩
 have hv1:=hv.mono hle1
 refine lA I (SL.nT ?_)
 refine SC.cut (ι:=Nat × Value × PH) (fun i=>[(2,vi n),(3,pp b3 0),(4,pp b4 0),(7,vb true),(8,pp i.1 0)]) (fun i=>i.2.2)
  (fun i=>pt i.1 (.cells #[i.2.1] 31 (0,0)) :: pt b4 (.cells #[vi a0,vi a1,vi a2] 25 (0,0)) :: pt b3 (.cells #[vi kd,.slice p nn c,vi y] 24 (0,0)) :: s)
  (fun i=>Le g1 i.2.2 ∧ Cells i.2.2 i.2.1 A) ?_ ?_
 ·refine SC.drawX [] Tryz.mixed (by kernel_rfl) ?_
  refine SX.q (i:=0) I (by kernel_rfl) (qV 1 isAgg24 sizeOf24 I I I) dC (SX.q (i:=2) I (by kernel_rfl) (qV 0 isAgg25 sizeOf25 I I I) dC ?_)
  refine SX.br2 1 4 (by kernel_rfl) ?_ ?_
  ·refine SB.o (i:=1) rfl (cL call7 rfl (hmade g1 _ _ hv1)) dC (.inr (by rintro _ g2 _ ⟨rfl,hle2,xm,rfl,hxm⟩; exact ⟨by assumption,(by exact .refl _)⟩)) ?_
   rintro _ g2 _ ⟨rfl,hle2,xm,rfl,hxm⟩
   obtain ⟨qm,dm,rfl⟩:=hxm.form
   refine SX.br2 3 4 (by kernel_rfl) ?_ ?_
   ·refine SB.o (i:=3) rfl (cL call8 rfl (hspa g2 _ _ hxm)) dC (.inr (by rintro _ g3 _ ⟨rfl,hle3,xa,rfl,hxa⟩; exact ⟨by exact Le.trans (by assumption) (by assumption),(by exact .refl _)⟩)) ?_
    rintro _ g3 _ ⟨rfl,hle3,xa,rfl,hxa⟩
    obtain ⟨qa,da,rfl⟩:=hxa.form
    refine SX.br1 4 (by kernel_rfl) ?_
    ·refine SB.o (i:=4) rfl (aL zeroValue31) dC (.inr (by rintro _ _ _ ⟨b8,rfl,rfl,rfl⟩; exact ⟨by exact Le.trans (by assumption) (by assumption),(by exact .cons _ (.refl _))⟩)) ?_
     rintro _ _ _ ⟨b8,rfl,rfl,rfl⟩
     refine SX.br1 5 (by kernel_rfl) ?_
     ·refine SB.on (i:=5) rfl (sK 0 zT31 rfl rfl rfl rfl rfl sB) (.inr (by rintro _ _ _ ⟨rfl,rfl⟩; exact ⟨by exact Le.trans (by assumption) (by assumption),(by exact .cons _ (.refl _))⟩)) ?_
      rintro _ _ _ ⟨rfl,rfl⟩
      refine SX.nil (by kernel_rfl) ?_
      exact ST.mid (b8,_,g3) sB I I ⟨hle2.trans hle3,hxa⟩
   ·refine SB.o (i:=4) rfl (aL zeroValue31) dC (.inr (by rintro _ _ _ ⟨b8,rfl,rfl,rfl⟩; exact ⟨by assumption,(by exact .cons _ (.refl _))⟩)) ?_
    rintro _ _ _ ⟨b8,rfl,rfl,rfl⟩
    refine SX.br1 3 (by kernel_rfl) ?_
    ·refine SB.o (i:=3) rfl (cL call8 rfl (hspa g2 _ _ hxm)) dC (.inr (by rintro _ g3 _ ⟨rfl,hle3,xa,rfl,hxa⟩; exact ⟨by exact Le.trans (by assumption) (by assumption),(by exact .cons _ (.refl _))⟩)) ?_
     rintro _ g3 _ ⟨rfl,hle3,xa,rfl,hxa⟩
     obtain ⟨qa,da,rfl⟩:=hxa.form
     refine SX.br1 5 (by kernel_rfl) ?_
     ·refine SB.on (i:=5) rfl (sK 0 zT31 rfl rfl rfl rfl rfl sB) (.inr (by rintro _ _ _ ⟨rfl,rfl⟩; exact ⟨by exact Le.trans (by assumption) (by assumption),(by exact .cons _ (.refl _))⟩)) ?_
      rintro _ _ _ ⟨rfl,rfl⟩
      refine SX.nil (by kernel_rfl) ?_
      exact ST.mid (b8,_,g3) sB I I ⟨hle2.trans hle3,hxa⟩
  ·refine SB.o (i:=4) rfl (aL zeroValue31) dC (.inr (by rintro _ _ _ ⟨b8,rfl,rfl,rfl⟩; exact ⟨by exact Le.refl _,(by exact .cons _ (.refl _))⟩)) ?_
   rintro _ _ _ ⟨b8,rfl,rfl,rfl⟩
   refine SX.br1 1 (by kernel_rfl) ?_
   ·refine SB.o (i:=1) rfl (cL call7 rfl (hmade g1 _ _ hv1)) dC (.inr (by rintro _ g2 _ ⟨rfl,hle2,xm,rfl,hxm⟩; exact ⟨by assumption,(by exact .cons _ (.refl _))⟩)) ?_
    rintro _ g2 _ ⟨rfl,hle2,xm,rfl,hxm⟩
    obtain ⟨qm,dm,rfl⟩:=hxm.form
    refine SX.br1 3 (by kernel_rfl) ?_
    ·refine SB.o (i:=3) rfl (cL call8 rfl (hspa g2 _ _ hxm)) dC (.inr (by rintro _ g3 _ ⟨rfl,hle3,xa,rfl,hxa⟩; exact ⟨by exact Le.trans (by assumption) (by assumption),(by exact .cons _ (.refl _))⟩)) ?_
     rintro _ g3 _ ⟨rfl,hle3,xa,rfl,hxa⟩
     obtain ⟨qa,da,rfl⟩:=hxa.form
     refine SX.br1 5 (by kernel_rfl) ?_
     ·refine SB.on (i:=5) rfl (sK 0 zT31 rfl rfl rfl rfl rfl sB) (.inr (by rintro _ _ _ ⟨rfl,rfl⟩; exact ⟨by exact Le.trans (by assumption) (by assumption),(by exact .cons _ (.refl _))⟩)) ?_
      rintro _ _ _ ⟨rfl,rfl⟩
      refine SX.nil (by kernel_rfl) ?_
      exact ST.mid (b8,_,g3) sB I I ⟨hle2.trans hle3,hxa⟩
 rintro ⟨b8,xa,g3⟩ ⟨hle3,hxa⟩
 dsimp only at hle3 hxa ⊢
 have hxa0:=hxa
 obtain ⟨rs,hrs,hall⟩:=hxa0
 obtain ⟨qa,da,rfl⟩:=hrs.form
 have hrl:=hall.length
 have hle:=hle1.trans hle3
 refine SC.sR (lA I (SL.nT (sQ (SC.sR (lA I (SL.nT (bK (SC.nilRow 3 1 ?_))))))))
 refine oP (ι:=Value × Nat) (fun i=>[(2,vi n),(3,pp b3 0),(4,pp b4 0),(7,vb true),(8,pp b8 0),(9,i.1),(10,vi i.2)]) (fun _=>g3)
  (fun i=>rowA encInt 3 i.1 ((A.take i.2).map Cl.id) :: pt b8 (.cells #[.slice qa rs.length da] 31 (0,0)) :: pt b4 (.cells #[vi a0,vi a1,vi a2] 25 (0,0)) :: pt b3 (.cells #[vi kd,.slice p nn c,vi y] 24 (0,0)) :: s)
  (fun i=>i.2 ≤ A.length ∧ ((A.map Cl.id).take i.2).Nodup ∧ ∀ c ∈ A.take i.2,(c.sides.map Side.cell).Nodup) (fun i=>A.length - i.2) (.slice none 0 0,0) sB rfl rfl ⟨Nat.zero_le _,by simp,by simp⟩ ?_
 rintro ⟨ov,i⟩ ⟨hi,hnd,hsd⟩
 dsimp only at hi hnd hsd ⊢
 refine sQ (SC.sR (lM I (lU (fA uT31 I zT29 I) (lK (qL (v:=.slice qa rs.length da) iT29 I (cO 1 I I)) (lU (eN uT29 I) (lU (lS I I) (SL.nT ?_)))))))
 refine iP I (fun hlt=>?_) (fun hlt=>?_)
 ·have hil : i < A.length:=oM
  have hir : i < rs.length:=oM
  have hb1:=hrs.based oM
  have hcr:=hall.get (gE hil) (gE hir)
  have hgr : rs[((i : Nat) : Int).toNat]? = some rs[i]:=gE hir
  have hmi : i < (A.map Cl.id).length:=by simpa using hil
  have hxid : (A.map Cl.id)[i] = A[i].id:=List.getElem_map _
  have htk : A.take (i + 1) = A.take i ++ [A[i]]:=tS hil
  have hxl:=hfa.2 _ (gM hil)
  generalize A[i] = x at *
  generalize rs[i] = r at *
  obtain ⟨ri,rd,rp,rn,rc⟩:=r
  have hsv : SlA encSide g3 (.slice rp rn rc) x.sides:=hcr.2.2
  have hxn : rn = x.sides.length:=by obtain ⟨q,cc,hq⟩:=SlA.form hsv; simp at hq; exact hq.2.1
  subst hxn
  have hri : ri = x.id:=hcr.1
  subst hri
  refine kP (tN (sQ (bK (sQ (SC.sR (lA I (SL.nT (bK ?_))))))))
  refine oP (ι:=Nat) (fun j=>[(2,vi n),(3,pp b3 0),(4,pp b4 0),(7,vb true),(8,pp b8 0),(9,ov),(10,vi i),(11,vi j)]) (fun _=>g3)
   (fun j=>rowA encInt 3 ov ((A.take i).map Cl.id) :: pt b8 (.cells #[.slice qa rs.length da] 31 (0,0)) :: pt b4 (.cells #[vi a0,vi a1,vi a2] 25 (0,0)) :: pt b3 (.cells #[vi kd,.slice p nn c,vi y] 24 (0,0)) :: s)
   (fun j=>j ≤ i ∧ ∀ q (hq : q < j) (hq2 : q < (A.map Cl.id).length),x.id ≠ (A.map Cl.id)[q]) (fun j=>i - j) 0 sB rfl rfl ⟨Nat.zero_le _,fun q hq=>absurd hq oM⟩ ?_
  rintro j ⟨hj,hne⟩
  refine sQ (SC.sR (lM I (lM I (lU (lS I I) (SL.nT ?_)))))
  refine iP I (fun hlt2=>?_) (fun hlt2=>?_)
  ·have hjl : j < A.length:=oM
   have hjr : j < rs.length:=oM
   have hcj:=hall.get (gE hjl) (gE hjr)
   have hgj : rs[((j : Nat) : Int).toNat]? = some rs[j]:=gE hjr
   have hjid : ∀ h,(A.map Cl.id)[j]'h = A[j].id:=fun h=>List.getElem_map _
   generalize A[j] = z at *
   generalize rs[j] = w at *
   obtain ⟨wi,wd,ws⟩:=w
   have hwi : wi = z.id:=hcj.1
   subst hwi
   refine kP (tN (sQ (bK (sQ ?_))))
   refine dW [] [(0,2),(1,1),(2,2),(3,2),(4,2),(5,1),(6,2),(7,1),(8,2),(9,2),(10,2),(11,1),(12,2)] Tryz.mixed (by kernel_rfl) ?_
   refine pU I (fA uT31 I zT29 I) (pK I (qL (v:=.slice qa rs.length da) iT29 I (cO 1 I I)) (pU I (mV I) (pU I (iA uT29 zT40 I I hb1 oM sL) (pU I (fC uT40 I zT3 I hb1) (pK I (pA (e:=encCell) (o:=0) (u:=vi x.id) iT3 I hrs.rd hgr I) (pU I (fA uT31 I zT29 I) (pK I (qL (v:=.slice qa rs.length da) iT29 I (cO 1 I I)) (pU I (mV I) (pU I (iA uT29 zT40 I I hb1 oM sL) (pU I (fC uT40 I zT3 I hb1) (pK I (pA (e:=encCell) (o:=0) (u:=vi z.id) iT3 I hrs.rd hgj I) (pU I (eQ I I) (pN (tN ?_))))))))))))))
   refine iP I (fun heq=>?_) (fun heq=>?_)
   ·refine SC.sR (lM I (lA I (SL.nT (rE (bR (tR (tR (bR (tR (bR (tR (tR (bR (tR (dR (s':=s) (.cons _ (.cons _ (.cons _ (.cons _ (.refl _))))) ?_)))))))))))))))
    exact ST.ret1 (.inl I) results4 I ⟨I,I,hle⟩
   ·refine kP (bN (tN (rG (lM I (lU (aD I I oM) (lA I (nL ?_)))))))
    exact gA (j + 1) sB I I ⟨oM,fun q hq hq2=>by
     rcases Nat.lt_succ_iff_lt_or_eq.1 hq with h | h
     ·exact hne q h hq2
     ·subst h; rw [hjid]; exact heq⟩ oM
  ·have hji : j = i:=oM
   subst hji
   have hnd2 : ((A.map Cl.id).take (j + 1)).Nodup:=nodup_succ hmi hnd fun q hq=>by rw [hxid]; exact hne q hq _
   refine xI (tX (tX (bX (tN (sQ (SC.sR (lA I (SL.nT (bK ?_)))))))))
   refine oP (ι:=Nat) (fun k=>[(2,vi n),(3,pp b3 0),(4,pp b4 0),(7,vb true),(8,pp b8 0),(9,ov),(10,vi j),(12,vi k)]) (fun _=>g3)
    (fun k=>rowA encInt 3 ov ((A.take j).map Cl.id) :: pt b8 (.cells #[.slice qa rs.length da] 31 (0,0)) :: pt b4 (.cells #[vi a0,vi a1,vi a2] 25 (0,0)) :: pt b3 (.cells #[vi kd,.slice p nn c,vi y] 24 (0,0)) :: s)
    (fun k=>k ≤ x.sides.length ∧ ((x.sides.map Side.cell).take k).Nodup) (fun k=>x.sides.length - k) 0 sB rfl rfl ⟨Nat.zero_le _,by simp⟩ ?_
   rintro k ⟨hk,hkd⟩
   refine sQ (SC.sR (lM I (lU (fA uT31 I zT29 I) (lK (qL (v:=.slice qa rs.length da) iT29 I (cO 1 I I)) (lM I (lU (iA uT29 zT40 I I hb1 oM sL) (lU (fC uT40 I zT38 I hb1) (lK (pA (e:=encCell) (o:=2) (u:=.slice rp x.sides.length rc) iT38 I hrs.rd hgr I) (lU (eN uT38 I) (lU (lS I I) (SL.nT ?_)))))))))))
   refine iP I (fun hlt3=>?_) (fun hlt3=>?_)
   ·have hkl : k < x.sides.length:=oM
    have hb2:=SlA.based hsv oM
    have hgk : x.sides[((k : Nat) : Int).toNat]? = some x.sides[k]:=gE hkl
    have hmk : k < (x.sides.map Side.cell).length:=by simpa using hkl
    have hkid : (x.sides.map Side.cell)[k] = x.sides[k].cell:=List.getElem_map _
    generalize x.sides[k] = a at *
    refine kP (tN (sQ (bK (SC.sR (lA I (SL.nT (bK ?_)))))))
    refine oP (ι:=Nat) (fun q=>[(2,vi n),(3,pp b3 0),(4,pp b4 0),(7,vb true),(8,pp b8 0),(9,ov),(10,vi j),(12,vi k),(13,vi q)]) (fun _=>g3)
     (fun q=>rowA encInt 3 ov ((A.take j).map Cl.id) :: pt b8 (.cells #[.slice qa rs.length da] 31 (0,0)) :: pt b4 (.cells #[vi a0,vi a1,vi a2] 25 (0,0)) :: pt b3 (.cells #[vi kd,.slice p nn c,vi y] 24 (0,0)) :: s)
     (fun q=>q ≤ k ∧ ∀ t (ht : t < q) (ht2 : t < (x.sides.map Side.cell).length),a.cell ≠ (x.sides.map Side.cell)[t]) (fun q=>k - q) 0 sB rfl rfl ⟨Nat.zero_le _,fun t ht=>absurd ht oM⟩ ?_
    rintro q ⟨hq,hqn⟩
    refine sQ (SC.sR (lM I (lM I (lU (lS I I) (SL.nT ?_)))))
    refine iP I (fun hlt4=>?_) (fun hlt4=>?_)
    ·have hql : q < x.sides.length:=oM
     have hgq : x.sides[((q : Nat) : Int).toNat]? = some x.sides[q]:=gE hql
     have hqid : ∀ h,(x.sides.map Side.cell)[q]'h = x.sides[q].cell:=fun h=>List.getElem_map _
     generalize x.sides[q] = b at *
     refine kP (tN (sQ (bK (sQ ?_))))
     refine dW [] [(0,2),(1,1),(2,2),(3,2),(4,2),(5,1),(6,2),(7,2),(8,2),(9,1),(10,2),(11,1),(12,2),(13,2),(14,2),(15,1),(16,2),(17,2),(18,2),(19,1),(20,2)] Tryz.mixed (by kernel_rfl) ?_
     refine pU I (fA uT31 I zT29 I) (pK I (qL (v:=.slice qa rs.length da) iT29 I (cO 1 I I)) (pU I (mV I) (pU I (iA uT29 zT40 I I hb1 oM sL) (pU I (fC uT40 I zT38 I hb1) (pK I (pA (e:=encCell) (o:=2) (u:=.slice rp x.sides.length rc) iT38 I hrs.rd hgr I) (pU I (mV I) (pU I (iA uT38 zT42 I I hb2 oM sL) (pU I (fC uT42 I zT3 I hb2) (pK I (pA (o:=0) (u:=vi a.cell) iT3 I hsv.rd hgk I) (pU I (fA uT31 I zT29 I) (pK I (qL (v:=.slice qa rs.length da) iT29 I (cO 1 I I)) (pU I (mV I) (pU I (iA uT29 zT40 I I hb1 oM sL) (pU I (fC uT40 I zT38 I hb1) (pK I (pA (e:=encCell) (o:=2) (u:=.slice rp x.sides.length rc) iT38 I hrs.rd hgr I) (pU I (mV I) (pU I (iA uT38 zT42 I I hb2 oM sL) (pU I (fC uT42 I zT3 I hb2) (pK I (pA (o:=0) (u:=vi b.cell) iT3 I hsv.rd hgq I) (pU I (eQ I I) (pN (tN ?_))))))))))))))))))))))
     refine iP I (fun heq2=>?_) (fun heq2=>?_)
     ·refine SC.sR (lM I (lA I (SL.nT (rE (bR (tR (tR (bR (bR (tR (tR (bR (tR (bR (tR (tR (bR (tR (dR (s':=s) (.cons _ (.cons _ (.cons _ (.cons _ (.refl _))))) ?_)))))))))))))))))))
      exact ST.ret1 (.inl I) results4 I ⟨I,I,hle⟩
     ·refine kP (bN (tN (rG (lM I (lU (aD I I oM) (lA I (nL ?_)))))))
      exact gA (q + 1) sB I I ⟨oM,fun t ht ht2=>by
       rcases Nat.lt_succ_iff_lt_or_eq.1 ht with h | h
       ·exact hqn t h ht2
       ·subst h; rw [hqid]; exact heq2⟩ oM
    ·have hqk : q = k:=oM
     subst hqk
     refine xI (tX (tX (bX (bN (tN (rG (lM I (lU (aD I I oM) (lA I (nL ?_))))))))))
     exact gA (q + 1) sB I I ⟨oM,nodup_succ hmk hkd fun t ht=>by rw [hkid]; exact hqn t ht _⟩ oM
   ·have hkk : (x.sides.map Side.cell).take k = x.sides.map Side.cell:=tL (by rw [List.length_map]; omega)
    rw [hkk] at hkd
    have hlek : ((A.take j).map Cl.id).length ≤ j:=by rw [List.length_map,List.length_take]; omega
    refine xI (tX (tX (bX (tN (rG (lM I (lU (fA uT31 I zT29 I) (lK (qL (v:=.slice qa rs.length da) iT29 I (cO 1 I I)) (lM I (lU (iA uT29 zT40 I I hb1 oM sL) (lU (fC uT40 I zT3 I hb1) (lK (pA (e:=encCell) (o:=0) (u:=vi x.id) iT3 I hrs.rd hgr I) (lW (bS sty27 I I I (szs_mk sB) dC) ?_)))))))))))))
    rintro _ _ _ ⟨b95,rfl,rfl,rfl⟩
    refine lW (aP (e:=encInt) 0 x.id sty27 I I I I I oM oM) ?_
    rintro ov' _ _ ⟨rfl,rfl⟩
    refine lA I (nL (bN (tN (rG (lM I (lU (aD I I oM) (lA I (nL ?_))))))))
    refine ST.to (fun w hw=>?_) (g':=g3) (s':=rowA encInt 3 ov' ((A.take (j + 1)).map Cl.id) :: pt b8 (.cells #[.slice qa rs.length da] 31 (0,0)) :: pt b4 (.cells #[vi a0,vi a1,vi a2] 25 (0,0)) :: pt b3 (.cells #[vi kd,.slice p nn c,vi y] 24 (0,0)) :: s) ?_
    ·rw [htk,List.map_append]; exact hw
    exact gA (ov',j + 1) sB I I ⟨by dsimp only; omega,hnd2,fun d hd=>by
     dsimp only at hd
     rw [htk] at hd
     rcases List.mem_append.1 hd with h | h
     ·exact hsd d h
     ·simp at h; subst h; exact hkd⟩ lN
 ·have hii : A.take i = A:=tL oM
  have hii2 : (A.map Cl.id).take i = A.map Cl.id:=tL (by rw [List.length_map]; omega)
  rw [hii] at hsd
  rw [hii2] at hnd
  rw [hii]
  have hdif : Dif A:=⟨hnd,hsd⟩
  refine fS fun g4 hle4 hids0=>?_
  have hids : Ints g4 ov (A.map Cl.id):=hids0
  clear hids0
  obtain ⟨qi,di,rfl⟩:=SlA.form hids
  have hx4:=hxa.mono hle4
  have hlm : (A.map Cl.id).length = A.length:=List.length_map _
  have hcap:=(SlA.cap hids).2
  have hft:=tabC_fits hfa
  have hfc:=canonC_fits hfa
  have hl4:=hle.trans hle4
  have htops : (topsC A).length ≤ (tabC A).length:=by unfold topsC; rw [List.length_map]; exact List.length_filter_le _ _
  have hftl:=hft.1
  refine xI (tX (tX (bX (tN (SC.sR (lK (qV 0 iT31 zT31 I I I) (lM I (lW (cL call12 I (shuffled_spec E g4 _ _ A n hx4 hfa)) ?_))))))))
  rintro _ g5 _ ⟨rfl,hle5,xb,B,rfl,hxb,hsh⟩
  obtain ⟨qb,db,rfl⟩:=hxb.form
  have hcan:=canonC_sh hsh hdif
  have htab : tabC B = tabC A:=(by unfold tabC; rw [hcan])
  have hlen:=hsh.length
  have hchk : checkC B = checkC A:=(by unfold checkC; rw [htab,← hcan,← hlen])
  have hfb:=hsh.fits hfa
  have hx5:=hx4.mono hle5
  have hi5:=SlA.mono hids hle5
  have hl5:=hl4.trans hle5
  have htopB : topsC B = topsC A:=(by unfold topsC; rw [htab])
  have hidB : ∀ d,idsC B d = idsC A d:=(fun d=>by unfold idsC; rw [htab])
  refine SL.bx (aL zeroValue31) fun b14=>?_
  refine SL.O2 (sK 0 zT31 I I I I I sB) ?_
  refine SL.nT (SC.sR (lK (qV 1 iT31 zT31 I I I) (lW (cL call13 I (check_spec E g5 _ _ A hx5 hfa)) ?_)))
  rintro _ _ _ ⟨rfl,rfl,rfl⟩
  refine lM I (lU (xT I I) (lU (xT I I) (lA I (lA I (SL.nT (SC.sR (lK (qV 0 iT31 zT31 I I I) (lW (cL call13 I (check_spec E g5 _ _ B hxb hfb)) ?_))))))))
  rintro _ _ _ ⟨rfl,rfl,rfl⟩
  rw [hchk]
  refine lM I (lU (xT I I) (lU (xT I I) (lA I (lA I (SL.nT (sQ ?_))))))
  refine dW [54] [(0,2),(1,2),(2,1),(3,1),(4,0),(5,2),(6,2),(7,1),(9,1),(8,0),(10,0),(11,0),(12,2),(13,2),(14,2),(15,2),(16,2),(17,2),(18,2),(19,2),(20,2),(21,2),(22,2),(23,2),(24,1),(25,2),(26,2),(27,2),(28,2),(29,2),(31,1),(32,2),(33,2),(34,2),(35,2),(36,2),(30,0),(37,0),(38,0),(39,2),(40,2),(41,1),(43,1),(42,0),(44,0),(45,0),(46,2),(47,2),(48,1),(50,1),(49,0),(51,0),(52,0),(53,2),(54,0)] Tryz.mixed (by kernel_rfl) ?_
  refine pU rfl (mV rfl) (pU rfl (mV rfl) (SP.gq rfl (gT rfl rfl rfl dC) (qV 1 iT31 zT31 rfl rfl rfl) dC (SP.gq rfl (gT rfl rfl rfl dC) (qV 0 iT31 zT31 rfl rfl rfl) dC (SP.go rfl (gT rfl rfl rfl dC) (cL call14 rfl (equal_refl E g5 _ _ _ hx5 hxb hfa hfb hcan)) dC (.inr (by rintro _ _ _ ⟨rfl,rfl,rfl⟩; exact ⟨by exact Le.refl _,(by exact .refl _)⟩)) ?_))))
  rintro _ _ _ ⟨rfl,rfl,rfl⟩
  refine pU rfl (pT rfl rfl) (pU rfl (mV rfl) (SP.gq rfl (gT rfl rfl rfl dC) (qV 1 iT31 zT31 rfl rfl rfl) dC (SP.gq rfl (gT rfl rfl rfl dC) (qV 0 iT31 zT31 rfl rfl rfl) dC (SP.go rfl (gT rfl rfl rfl dC) (cL call16 rfl (canon_spec E g5 _ _ A hx5 hfa)) dC (.inr (by rintro _ g6 _ ⟨rfl,hle6,u6,rfl,hu6⟩; exact ⟨by assumption,(by exact .refl _)⟩)) ?_))))
  rintro _ g6 _ ⟨rfl,hle6,u6,rfl,hu6⟩
  have hac:=hle6
  have hx6:=hx5.mono hle6
  have hb6:=hxb.mono hle6
  refine SP.go rfl (gT rfl rfl rfl dC) (cL call16 rfl (canon_spec E g6 _ _ B hb6 hfb)) dC (.inr (by rintro _ g7 _ ⟨rfl,hle7,u7,rfl,hu7⟩; exact ⟨by exact Le.trans (by assumption) (by assumption),(by exact .refl _)⟩)) ?_
  rintro _ g7 _ ⟨rfl,hle7,u7,rfl,hu7⟩
  have hac:=hac.trans hle7
  have hx7:=hx6.mono hle7
  have hb7:=hb6.mono hle7
  have hu67:=hu6.mono hle7
  rw [← hcan] at hu7
  refine SP.go rfl (gT rfl rfl rfl dC) (cL call15 rfl (lawSame_refl' E g7 _ _ _ _ hu67 hu7 hfc)) dC (.inr (by rintro _ _ _ ⟨rfl,rfl,rfl⟩; exact ⟨by assumption,(by exact .refl _)⟩)) ?_
  rintro _ _ _ ⟨rfl,rfl,rfl⟩
  refine pU rfl (pT rfl rfl) (pU rfl (mV rfl) (SP.gu rfl (gT rfl rfl rfl dC) (mV rfl) dC (SP.gu rfl (gT rfl rfl rfl dC) (mV rfl) dC (SP.gu rfl (gT rfl rfl rfl dC) (SU.eq (v':=vb true) (eQ rfl rfl) (congrArg vb (eqT _))) dC (pU rfl (pT rfl rfl) (pU rfl (mV rfl) (SP.gu rfl (gT rfl rfl rfl dC) (mV rfl) dC (SP.gu rfl (gT rfl rfl rfl dC) (mV rfl) dC (SP.gu rfl (gT rfl rfl rfl dC) (SU.eq (v':=vb true) (eQ rfl rfl) (congrArg vb (eqT _))) dC (pU rfl (pT rfl rfl) (pU rfl (mV rfl) (SP.gq rfl (gT rfl rfl rfl dC) (qV 1 iT31 zT31 rfl rfl rfl) dC (SP.gu rfl (gT rfl rfl rfl dC) (mV rfl) dC (SP.gu rfl (gT rfl rfl rfl dC) (mV rfl) dC (SP.gu rfl (gT rfl rfl rfl dC) (eN uT27 rfl) dC (SP.gu rfl (gT rfl rfl rfl dC) (SU.eq (v':=vi (((A.map Cl.id).length / 2 : Nat) : Int)) (SU.quo rfl rfl dC) (congrArg vi (half_len _ oM))) dC (SP.gu rfl (gT rfl rfl rfl dC) (SU.sliceH uT27 zT3 rfl rfl oM oM) dC (SP.gq rfl (gT rfl rfl rfl dC) (qV 0 iT31 zT31 rfl rfl rfl) dC (SP.gu rfl (gT rfl rfl rfl dC) (mV rfl) dC (SP.gu rfl (gT rfl rfl rfl dC) (mV rfl) dC (SP.gu rfl (gT rfl rfl rfl dC) (eN uT27 rfl) dC (SP.gu rfl (gT rfl rfl rfl dC) (SU.eq (v':=vi (((A.map Cl.id).length / 2 : Nat) : Int)) (SU.quo rfl rfl dC) (congrArg vi (half_len _ oM))) dC (SP.gu rfl (gT rfl rfl rfl dC) (SU.sliceH uT27 zT3 rfl rfl oM oM) dC (SP.go rfl (gT rfl rfl rfl dC) (cL call17 rfl (sub_spec E g7 _ _ _ A _ hx7 hfa (SlA.cut (l:=0) (m:=(A.map Cl.id).length / 2) (SlA.mono hi5 hac) oM oM) (by rw [List.length_take,List.length_drop]; omega))) dC (.inr (by rintro _ g8 _ ⟨rfl,hle8,u8,rfl,hu8⟩; exact ⟨by exact Le.trans (by assumption) (by assumption),(by exact .refl _)⟩)) ?_))))))))))))))))))))))))
  rintro _ g8 _ ⟨rfl,hle8,u8,rfl,hu8⟩
  have hi8:=SlA.mono (SlA.mono hi5 hac) hle8
  have hac:=hac.trans hle8
  have hx8:=hx7.mono hle8
  have hb8:=hb7.mono hle8
  refine SP.go rfl (gT rfl rfl rfl dC) (cL call17 rfl (sub_spec E g8 _ _ _ B _ hb8 hfb (SlA.cut (l:=0) (m:=(A.map Cl.id).length / 2) hi8 oM oM) (by rw [List.length_take,List.length_drop]; omega))) dC (.inr (by rintro _ g9 _ ⟨rfl,hle9,u9,rfl,hu9⟩; exact ⟨by exact Le.trans (by assumption) (by assumption),(by exact .refl _)⟩)) ?_
  rintro _ g9 _ ⟨rfl,hle9,u9,rfl,hu9⟩
  have hac:=hac.trans hle9
  have hx9:=hx8.mono hle9
  have hb9:=hb8.mono hle9
  have hu89:=hu8.mono hle9
  rw [htab] at hu9
  refine SP.go rfl (gT rfl rfl rfl dC) (cL call15 rfl (lawSame_refl' E g9 _ _ _ _ hu89 hu9 (filter_fits _ hft))) dC (.inr (by rintro _ _ _ ⟨rfl,rfl,rfl⟩; exact ⟨by assumption,(by exact .refl _)⟩)) ?_
  rintro _ _ _ ⟨rfl,rfl,rfl⟩
  refine pU rfl (pT rfl rfl) (pU rfl (mV rfl) (SP.gq rfl (gT rfl rfl rfl dC) (qV 1 iT31 zT31 rfl rfl rfl) dC (SP.gq rfl (gT rfl rfl rfl dC) (qV 0 iT31 zT31 rfl rfl rfl) dC (SP.go rfl (gT rfl rfl rfl dC) (cL call19 rfl (tops_spec E g9 _ _ A hx9 hfa)) dC (.inr (by rintro v152 g10 _ ⟨rfl,hle10,ht10⟩; exact ⟨by exact Le.trans (by assumption) (by assumption),(by exact .refl _)⟩)) ?_))))
  rintro v152 g10 _ ⟨rfl,hle10,ht10⟩
  have hac:=hac.trans hle10
  have hx10:=hx9.mono hle10
  have hb10:=hb9.mono hle10
  refine SP.go rfl (gT rfl rfl rfl dC) (cL call19 rfl (tops_spec E g10 _ _ B hb10 hfb)) dC (.inr (by rintro v154 g11 _ ⟨rfl,hle11,ht11⟩; exact ⟨by exact Le.trans (by assumption) (by assumption),(by exact .refl _)⟩)) ?_
  rintro v154 g11 _ ⟨rfl,hle11,ht11⟩
  have hac:=hac.trans hle11
  have hx11:=hx10.mono hle11
  have hb11:=hb10.mono hle11
  have ht1011:=SlA.mono ht10 hle11
  rw [htopB] at ht11
  refine SP.go rfl (gT rfl rfl rfl dC) (cL call18 rfl (ints_refl E g11 _ _ _ _ ht1011 ht11 oM)) dC (.inr (by rintro _ _ _ ⟨rfl,rfl,rfl⟩; exact ⟨by assumption,(by exact .refl _)⟩)) ?_
  rintro _ _ _ ⟨rfl,rfl,rfl⟩
  refine pU rfl (pT rfl rfl) (pU rfl (mV rfl) (SP.gq rfl (gT rfl rfl rfl dC) (qV 1 iT31 zT31 rfl rfl rfl) dC (SP.gq rfl (gT rfl rfl rfl dC) (qV 0 iT31 zT31 rfl rfl rfl) dC (SP.go rfl (gT rfl rfl rfl dC) (cL call21 rfl (matrix_spec E g11 _ _ A 1 hx11 hfa ⟨by decide,by decide⟩)) dC (.inr (by rintro v159 g12 _ ⟨rfl,hle12,hm12⟩; exact ⟨by exact Le.trans (by assumption) (by assumption),(by exact .refl _)⟩)) ?_))))
  rintro v159 g12 _ ⟨rfl,hle12,hm12⟩
  have hac:=hac.trans hle12
  have hb12:=hb11.mono hle12
  refine SP.go rfl (gT rfl rfl rfl dC) (cL call21 rfl (matrix_spec E g12 _ _ B 1 hb12 hfb ⟨by decide,by decide⟩)) dC (.inr (by rintro v161 g13 _ ⟨rfl,hle13,hm13⟩; exact ⟨by exact Le.trans (by assumption) (by assumption),(by exact .refl _)⟩)) ?_
  rintro v161 g13 _ ⟨rfl,hle13,hm13⟩
  have hac:=hac.trans hle13
  have hm1213:=hm12.mono hle13
  rw [htab,hidB,hidB] at hm13
  refine SP.go rfl (gT rfl rfl rfl dC) (cL call20 rfl (matEqual_spec E g13 _ _ _ _ hm1213 hm13 (matRes_ok _ _ _))) dC (.inr (by rintro _ _ _ ⟨rfl,rfl,rfl⟩; exact ⟨by assumption,(by exact .refl _)⟩)) ?_
  rintro _ _ _ ⟨rfl,rfl,rfl⟩
  refine pU I (pT I I) (oU I (aS I) dC (.inl dC) (pN (tN (rE (dR (s':=s) (.cons _ (.cons _ (.cons _ (.cons _ (.refl _))))) ?_)))))
  exact ST.ret1 (.inl I) results4 I ⟨I,I,hl5.trans hac⟩
end Go.Proofs.YtkdibcicncjpdaaGreatDoor
namespace Go.Proofs.YtkdibcicncjpdaaGreatDoor.cellsOrderDone
open _root_.Go.Proofs.Tryz _root_.Go.Proofs.YtkdibcicncjpdaaGreatDoor.Tryz
open Go Go.Sy Go.Pl Go.Proofs Go.Proofs.YtkdibcicncjpdaaGreatDoor
open Go.ChangeShapes Go.WideShapes Go.ChangeAt Go.RowKit
set_option linter.unusedVariables false
theorem own : ownKnob Tryz.prog.godebug = none:=by kernel_rfl
theorem laidOut : laidOutB Tryz.prog = true:=by kernel_rfl
set_option maxRecDepth 100000 in
theorem lifted (os : Os) (started : os.Started) (H : Type) (enc : TypeId × Value → H) :
  ReturnsInHanded {} Tryz.checked os 4 .any (fun w args=>(Rows.cellsOrderSpec.pre enc Tryz.prog f4 Rows.cellsOrderRow.domain false w args ∧ laidMetH Tryz.prog Rows.cellsOrderRow.laid w) ∧ sizedMet enc Tryz.prog f4 (OpenSpec.ofChange Rows.cellsOrderSpec) false w args)
   (Rows.cellsOrderSpec.post enc Tryz.prog f4 false true false false):=by
 refine returnsInHanded_of_change_and (C:=Tryz.checked) (X:=fun w _=>laidMetH Tryz.prog Rows.cellsOrderRow.laid w) (fun _ _ _ hh h=>h.of_heap hh) own started (by kernel_rfl) func4
  (ChangeSpec.witness_shaped (enc:=enc) (C:=Tryz.checked) (os:=os) (X:=fun w _=>laidMetH Tryz.prog Rows.cellsOrderRow.laid w) false (World.laidAll Tryz.prog os Rows.cellsOrderRow.laid) #[.agg #[.int .i64 0,.slice none 0 0,.int .i64 0],.agg #[.int .i64 0,.int .i64 0,.int .i64 0],.int .i64 0] 8 (World.laidAll_os _ _ _)
   (World.shaped_of_ZipB (by kernel_rfl) (by kernel_rfl)) (by kernel_rfl) (by kernel_rfl) (by kernel_rfl)
   (by rw [MakeChecks.laidMetH_plain _ _ _ (by kernel_rfl)]; exact laidMet_laidAll _ (by kernel_rfl) (by kernel_rfl))) ?_
 intro W base args ds gs before hval0 hW hcnd hsz0 hL _
 have hval : ∀ (j : Nat) t v,f4.params[j]? = some t → args[j]? = some v → Value.okWide Tryz.prog W .any base t v:=hval0
 have hW':=hW
 obtain ⟨p,q,hA0,hV,rfl,hfz,hnd⟩:=hW
 have hA : DataW.TrodAll enc Tryz.prog W 0 (fun _=>true) true f4.params.toList args.toList ds p:=hA0
 rw [params4] at hA hval
 obtain ⟨v0,vs0,d0,ds0,p0,q0,hargs,rfl,rfl,h0,r0⟩:=trodAll_cons hA
 obtain ⟨v1,vs1,d1,ds1,p1,q1,rfl,rfl,rfl,h1,r1⟩:=trodAll_cons r0
 obtain ⟨v2,vs2,d2,ds2,p2,q2,rfl,rfl,rfl,h2,r2⟩:=trodAll_cons r1
 obtain ⟨rfl,rfl,rfl⟩:=trodAll_nil r2
 obtain rfl : args = #[v0,v1,v2]:=by cases args; simp_all
 obtain ⟨rfl,rfl⟩:=trodVars_none hV
 have lt0 : ∀ x ∈ p0,x.block < W.heap.size:=by obtain ⟨m,hm⟩:=h0; exact DataW.trod_lt m _ _ _ hm
 have lt1 : ∀ x ∈ p1,x.block < W.heap.size:=by obtain ⟨m,hm⟩:=h1; exact DataW.trod_lt m _ _ _ hm
 have lt2 : ∀ x ∈ p2,x.block < W.heap.size:=by obtain ⟨m,hm⟩:=h2; exact DataW.trod_lt m _ _ _ hm
 obtain ⟨kd,y,u,ls,e0,hls⟩:=shape_of (hval 0 24 v0 rfl rfl) h0
 obtain ⟨a0,a1,a2,e1⟩:=three_of (hval 1 25 v1 rfl rfl) h1
 obtain ⟨n,e2⟩ : ∃ n : Int,v2 = vi n:=by
  obtain ⟨n,e,_⟩:=open_int uT3 (hval 2 3 v2 rfl rfl) h2
  exact ⟨n,e⟩
 clear hA0 hval0
 have walk : Calls Tryz.prog 4 #[v0,v1,v2] W fun e w'=>e = .returned (.bool true) ∧ Below W.heap.size W w':=by
  rw [e0,e1,e2]
  refine (cellsOrder_spec (E0 W) I (held W) [] u kd y ls a0 a1 a2 n hls W (at_start W)).mono ?_
  rintro e w' ⟨v,g',s',rfl,hat,rfl,rfl,hle⟩
  exact ⟨I,at_below hat hle⟩
 refine walk.mono fun e W' ⟨he,bel⟩=>?_
 subst he
 exact ⟨_,I,_,_,_,[],_,[],hW',trodAll_mk1 (shut_bool underlying4 _),(trodAll_cons_mk (Below.trod laidOut (by kernel_rfl) (of_decide_eq_true (by kernel_rfl)) h0 bel lt0) (trodAll_cons_mk (Below.trod laidOut (by kernel_rfl) (of_decide_eq_true (by kernel_rfl)) h1 bel lt1) (trodAll_cons_mk (Below.trod laidOut (by kernel_rfl) (of_decide_eq_true (by kernel_rfl)) h2 bel lt2) trodAll_mk0))),I,bel.frame _,fun h=>by cases h⟩
theorem over : Rows.cellsOrderRow.holds Tryz.pinned (OpenSpec.ofChange Rows.cellsOrderSpec) :=
 OpenClaim.holds_of_wide 4 f4 rfl rfl rfl rfl rfl rfl rfl ⟨rfl,rfl,rfl,rfl,rfl⟩ rfl rfl rfl rfl rfl (by kernel_rfl) func4 (by kernel_rfl)
  (of_decide_eq_true (by kernel_rfl)) (by unfold Func.isWrapper; first | (rw [if_pos (by decide +kernel)]; kernel_rfl) | (rw [if_neg (by decide +kernel)]; exact ⟨rfl,rfl⟩))
  (fun os started H enc _=>lifted os started H enc)
theorem proved : Rows.CellsOrderCardSaid :=
 Claim7.holds_tied_plain_at .later [] [.data,.pinned] true (true, "45ba0e11d175ab82e67e4e45093b06b162f1c5a1c8aff8897be8b5aecdf887bb") false
  over (fun _ h=>by cases h) (by kernel_rfl) (fun _ h=>by cases h) cellsOrder_row_tie rfl ⟨rfl,rfl⟩ (by kernel_rfl) rfl
  (fun f fn hf hfn=>by
   obtain rfl : f = 4:=Option.some.inj ((show Tryz.prog.funcNamed "cocycle/cocyclelaw06.CellsOrder" = some 4 by kernel_rfl).symm.trans hf) |>.symm
   obtain rfl : fn = f4:=(Option.some.inj (func4.symm.trans hfn)).symm
   exact ⟨by kernel_rfl,fun j t ht=>by
    rw [params4] at ht
    have hm : t ∈ [24,25,3]:=by simpa using Array.mem_of_getElem? ht
    have hall : ([24,25,3].all fun u=>!Tryz.prog.wantsStandIn u) = true:=by kernel_rfl
    exact (show Tryz.prog.wantsStandIn t = false by simpa using List.all_eq_true.1 hall t hm)⟩)
  (by kernel_rfl)
#print axioms proved
end Go.Proofs.YtkdibcicncjpdaaGreatDoor.cellsOrderDone
