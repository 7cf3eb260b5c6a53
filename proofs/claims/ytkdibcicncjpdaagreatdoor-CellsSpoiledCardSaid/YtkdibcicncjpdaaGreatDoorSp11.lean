/- Rgt3 Frm2 Sec2 Rgt4 Rgt5 Aro2 Ren1 Ren2 Ren3 MadI Par2 SyX -/
import Derived.Test.YtkdibcicncjpdaaGreatDoorSp10
import Derived.SizedLaws
import Derived.Test.YtkdibcicncjpdaaGreatDoorSp08
import Derived.Test.YtkdibcicncjpdaaGreatDoorSp05
import Derived.Test.YtkdibcicncjpdaaGreatDoorSp09
import Derived.Test.YtkdibcicncjpdaaGreatDoorSp06
import Derived.Test.YtkdibcicncjpdaaGreatDoorSp04
import Derived.RangeFuncLeaves
import Derived.RangeFuncRecord
import Derived.RangeFuncSeq
import Derived.OrdersIn
import Derived.TacticsIn
set_option linter.unusedSimpArgs false
set_option linter.unusedVariables false
namespace Go.Proofs.YtkdibcicncjpdaaGreatDoor
open _root_.Go.Proofs.Tryz _root_.Go.Proofs.YtkdibcicncjpdaaGreatDoor.Tryz
open Go Go.Sy Go.Pl Go.Proofs
theorem find_mem {A : List Cl} (h : (A.map Cl.id).Nodup) {x : Cl} (hx : x ∈ A) : findT A x.id = some x:=by
 induction A with
 | nil=>simp at hx
 | cons c t ih =>
  simp only [List.map_cons,List.nodup_cons] at h
  unfold findT
  rcases List.mem_cons.1 hx with rfl | hx
  ·simp
  ·have hne : ¬ c.id = x.id:=fun e=>h.1 (by rw [e]; exact List.mem_map.2 ⟨x,hx,rfl⟩)
   rw [List.find?_cons]
   simp only [hne,decide_false]
   exact ih h.2 hx
theorem normC_idem (c : Cl) : normC (normC c) = normC c:=by
 unfold normC
 rw [← eq_sortBy (sortBy_srt c.sides) (Stab.refl _)]
theorem canonC_idem (l : List Cl) : canonC (canonC l) = canonC l:=by
 have h1 : sortBy Cl.id (canonC l) = canonC l:=(eq_sortBy (canonC_srt l) (Stab.refl _)).symm
 show (sortBy Cl.id (canonC l)).map normC = canonC l
 rw [h1]
 unfold canonC
 rw [List.map_map]
 exact List.map_congr_left fun c _=>normC_idem c
theorem sort_rev {α : Type} {key : α → Int} {l : List α} (h : l.Pairwise fun a b=>key b < key a) : sortBy key l = l.reverse:=by
 refine (eq_sortBy ?_ ⟨by simp,fun c=>?_⟩).symm
 ·unfold Srt
  rw [List.pairwise_reverse]
  exact h.imp fun h=>by omega
 ·rw [List.filter_reverse]
  have : ∀ m : List α,m.Pairwise (fun a b=>key b < key a) → (∀ a ∈ m,(key a == c) = true) → m.reverse = m:=by
   intro m hm hc
   match m,hm,hc with
   | [],_,_=>rfl
   | [_],_,_=>rfl
   | a :: b :: r,hm,hc =>
    have h1:=(List.pairwise_cons.1 hm).1 b (by simp)
    have h2:=hc a (by simp)
    have h3:=hc b (by simp)
    simp at h2 h3
    omega
  exact this _ (h.sublist List.filter_sublist) fun a ha=>(List.mem_filter.1 ha).2
section
variable {all : List (List Int)} (hg : Good all)
include hg
theorem Good.face {s : List Int} (hs : s ∈ all) {k : Nat} (hk : k < s.length) (h2 : 2 ≤ s.length) : s.eraseIdx k ∈ all ∧ (s.eraseIdx k).length = s.length - 1 :=
 ⟨hg.faces s hs h2 k hk,by rw [List.length_eraseIdx,if_pos hk]⟩
theorem Good.sides {s : List Int} (hs : s ∈ all) : sortBy Side.cell (simpSides all s s.length) = facesC all s:=by
 have hne:=(hg.form s hs).1
 have hst:=(hg.form s hs).2.1
 by_cases h1 : s.length ≤ 1
 ·have h0 : s.length = 1:=by have:=List.length_pos_iff.2 hne; omega
  unfold facesC
  rw [if_pos h1,h0]
  have : sideAt all s 0 = []:=by
   unfold sideAt
   have h3 : (s.eraseIdx 0).length = 0:=by rw [List.length_eraseIdx,if_pos oM]; omega
   rw [if_neg oM]
  simp [simpSides,List.range_succ,this,sortBy]
 ·have h2 : 2 ≤ s.length:=oM
  have e : simpSides all s s.length = (List.range s.length).map fun k : Nat=>(⟨ixC all (s.eraseIdx k),signC k⟩ : Side):=by
   unfold simpSides
   rw [List.flatMap_def]
   have : (List.range s.length).map (sideAt all s) = (List.range s.length).map fun k : Nat=>[(⟨ixC all (s.eraseIdx k),signC k⟩ : Side)]:=List.map_congr_left fun k hk=>by
    have hk:=List.mem_range.1 hk
    unfold sideAt
    rw [(hg.face hs hk h2).2,if_pos oM]
    rfl
   rw [this]
   generalize List.range s.length = R
   induction R with
   | nil=>rfl
   | cons x r ih=>simp only [List.map_cons,List.flatten_cons,ih]; rfl
  unfold facesC
  rw [if_neg h1,e,List.map_reverse]
  refine sort_rev ?_
  rw [List.pairwise_map]
  refine List.Pairwise.imp_of_mem ?_ (List.pairwise_lt_range (n:=s.length))
  intro i j hi hj hij
  have hi:=List.mem_range.1 hi
  have hj:=List.mem_range.1 hj
  exact hg.lt (hg.face hs hj h2).1 (hg.face hs hi h2).1 (erase_lt hst hij hj)
theorem Good.cells : canonC (simpCells all) = all.map (celC all):=by
 rw [canon_simp]
 apply List.ext_getElem?
 intro k
 simp only [List.getElem?_map]
 by_cases hk : k < all.length
 ·rw [simpCells_get hk,gE hk]
  simp only [Option.map_some,Option.some.injEq]
  unfold normC simpCell celC
  simp only [hg.sides (gM hk),ixC,hg.lb_get hk]
 ·rw [List.getElem?_eq_none (by rw [simpCells_length]; omega),List.getElem?_eq_none oM]
  rfl
theorem Good.ids : ((all.map (celC all)).map Cl.id).Pairwise (· < ·):=by
 rw [List.map_map,List.pairwise_map]
 refine List.Pairwise.imp_of_mem ?_ hg.strict
 intro a b ha hb h
 exact hg.lt ha hb h
theorem Good.find {s : List Int} (hs : s ∈ all) : findT (all.map (celC all)) (ixC all s) = some (celC all s) :=
 find_mem (x:=celC all s) (hg.ids.imp fun h=>by omega) (List.mem_map.2 ⟨s,hs,rfl⟩)
end
theorem signC_one (k : Nat) : signC k = 1 ∨ signC k = -1:=by unfold signC; omega
theorem facesC_get {all : List (List Int)} {s : List Int} (h : 2 ≤ s.length) {i : Nat} (hi : i < s.length) : (facesC all s)[i]? = some ⟨ixC all (s.eraseIdx (s.length - 1 - i)),signC ((s.length - 1 - i : Nat) : Int)⟩:=by
 unfold facesC
 rw [if_neg oM,List.getElem?_map,List.getElem?_reverse (by simpa using hi)]
 simp only [List.length_range]
 rw [List.getElem?_range oM]
 rfl
theorem facesC_length {all : List (List Int)} {s : List Int} : (facesC all s).length = if s.length ≤ 1 then 0 else s.length:=by
 unfold facesC
 split <;> simp
section
variable {all : List (List Int)} (hg : Good all)
include hg
theorem Good.formOk {s : List Int} (hs : s ∈ all) : formC (all.map (celC all)) (celC all s) = 0:=by
 obtain ⟨hne,hst,h9⟩:=hg.form s hs
 have hp:=List.length_pos_iff.2 hne
 have hlen : (celC all s).sides.length = if s.length ≤ 1 then 0 else s.length:=facesC_length
 have hdim : (celC all s).dim = (s.length : Int) - 1:=rfl
 have h1 : dimBad (celC all s) = false:=by unfold dimBad; rw [hdim]; simp; omega
 have h2 : cntBad (celC all s) = false:=by
  unfold cntBad
  rw [hdim,hlen]
  split
  ·simp; omega
  ·simp; omega
 have h3 : (List.range (celC all s).sides.length).any (badAt (all.map (celC all)) (celC all s)) = false:=by
  rw [List.any_eq_false]
  intro i hi
  have hi:=List.mem_range.1 hi
  rw [hlen] at hi
  split at hi
  ·omega
  ·rename_i hl
   have h2 : 2 ≤ s.length:=oM
   have hgi:=facesC_get (all:=all) h2 hi
   have hf:=hg.face hs (k:=s.length - 1 - i) oM h2
   unfold badAt
   rw [show (celC all s).sides[i]? = _ from hgi]
   show ¬ badSide _ _ i ⟨ixC all (s.eraseIdx (s.length - 1 - i)),_⟩ = true
   unfold badSide
   dsimp only
   rw [hg.find hf.1]
   have hd : (celC all (s.eraseIdx (s.length - 1 - i))).dim = (celC all s).dim - 1:=by
    show ((s.eraseIdx (s.length - 1 - i)).length : Int) - 1 = (s.length : Int) - 1 - 1
    rw [hf.2]
    omega
   simp only [Option.isSome_some,Bool.not_true,Bool.false_or,Option.getD_some,hd,ne_eq,not_true_eq_false,decide_false]
   by_cases hi0 : i > 0
   ·have hgp:=facesC_get (all:=all) h2 (i:=i - 1) oM
    rw [show (celC all s).sides[i - 1]? = _ from hgp]
    have hf2:=hg.face hs (k:=s.length - 1 - (i - 1)) oM h2
    have:=hg.lt hf2.1 hf.1 (erase_lt hst oM oM)
    simp
    omega
   ·simp [hi0]
 have h4 : (celC all s).sides.any signBad = false:=by
  rw [List.any_eq_false]
  intro x hx
  show ¬ signBad x = true
  have hx : x ∈ facesC all s:=hx
  unfold facesC at hx
  split at hx
  ·simp at hx
  ·obtain ⟨k,_,rfl⟩:=List.mem_map.1 hx
   rcases signC_one k with h | h <;> simp [signBad,h]
 have h5 : (decide ((celC all s).dim = 1) && decide (sumS (celC all s).sides ≠ 0)) = false:=by
  by_cases hd : (celC all s).dim = 1
  ·rw [hdim] at hd
   have hl2 : s.length = 2:=oM
   have : sumS (celC all s).sides = 0:=by
    show sumS (facesC all s) = 0
    unfold facesC
    rw [if_neg oM,hl2]
    simp [List.range_succ,sumS,signC]
   rw [this]
   simp
  ·simp [hd]
 unfold formC
 rw [h1,h2,h3,h4,h5]
 rfl
end
theorem erase_comm (s : List Int) : ∀ {k q : Nat},k ≤ q → (s.eraseIdx k).eraseIdx q = (s.eraseIdx (q + 1)).eraseIdx k:=by
 induction s with
 | nil=>intro k q _; rfl
 | cons a r ih =>
  intro k q h
  cases k with
  | zero=>simp
  | succ k =>
   cases q with
   | zero=>omega
   | succ q =>
    simp only [List.eraseIdx_cons_succ]
    rw [ih oM]
theorem mem_erase2 {s : List Int} (hs : s.Nodup) {a b i : Nat} (hab : a < b) (hb : b < s.length) (hi : i < s.length) : s[i] ∈ (s.eraseIdx b).eraseIdx a ↔ i ≠ a ∧ i ≠ b:=by
 have hinj : ∀ {j k : Nat} (hj : j < s.length) (hk : k < s.length),s[j] = s[k] → j = k:=fun {j k} hj hk e=>by
  rcases Nat.lt_trichotomy j k with h | h | h
  ·exact absurd e (List.pairwise_iff_getElem.1 hs j k hj hk h)
  ·exact h
  ·exact absurd e.symm (List.pairwise_iff_getElem.1 hs k j hk hj h)
 rw [List.mem_eraseIdx_iff_getElem]
 constructor
 ·rintro ⟨j,hj1,hj2,e⟩
  have hj1':=hj1
  rw [List.length_eraseIdx,if_pos hb] at hj1'
  rw [List.getElem_eraseIdx] at e
  split at e
  ·have:=hinj _ _ e
   omega
  ·have:=hinj _ _ e
   omega
 ·rintro ⟨h1,h2⟩
  rcases Nat.lt_or_ge i b with h | h
  ·refine ⟨i,by rw [List.length_eraseIdx,if_pos hb]; omega,h1,?_⟩
   rw [List.getElem_eraseIdx,dif_pos h]
  ·refine ⟨i - 1,by rw [List.length_eraseIdx,if_pos hb]; omega,oM,?_⟩
   rw [List.getElem_eraseIdx,dif_neg oM]
   congr 1
   omega
theorem erase2_inj {s : List Int} (hs : s.Nodup) {a b c d : Nat} (hab : a < b) (hb : b < s.length) (hcd : c < d) (hd : d < s.length) (h : (s.eraseIdx b).eraseIdx a = (s.eraseIdx d).eraseIdx c) : a = c ∧ b = d:=by
 have key : ∀ i,i < s.length → ((i ≠ a ∧ i ≠ b) ↔ (i ≠ c ∧ i ≠ d)):=fun i hi=>by
  rw [← mem_erase2 hs hab hb hi,← mem_erase2 hs hcd hd hi,h]
 have ha:=key a oM
 have hb':=key b hb
 have hc:=key c oM
 have hd':=key d hd
 omega
def phiC (all : List (List Int)) (s : List Int) (c : Int) : Int:=ixC all ((s.eraseIdx (c % 16).toNat).eraseIdx (c / 16).toNat)
theorem code_ab {n k q : Nat} (hk : k < n) (hq : q < n - 1) : ∃ a b : Nat,a < b ∧ b < n ∧ code k q = ((a * 16 + b : Nat) : Int) ∧ ((q < k ∧ a = q ∧ b = k) ∨ (k ≤ q ∧ a = k ∧ b = q + 1)):=by
 unfold code
 by_cases h : q < k
 ·rw [if_pos h]; exact ⟨q,k,h,hk,rfl,.inl ⟨h,rfl,rfl⟩⟩
 ·rw [if_neg h]; exact ⟨k,q + 1,oM,oM,rfl,.inr ⟨oM,rfl,rfl⟩⟩
theorem code_div {a b : Nat} (h : b < 16) : ((((a * 16 + b : Nat) : Int) % 16).toNat = b) ∧ ((((a * 16 + b : Nat) : Int) / 16).toNat = a):=oM
section
variable {all : List (List Int)} (hg : Good all)
include hg
theorem Good.aroundOk {s : List Int} (hs : s ∈ all) (h3 : 2 < s.length) : aroundC (all.map (celC all)) (celC all s) = 0:=by
 obtain ⟨hne,hst,h9⟩:=hg.form s hs
 have hnd : s.Nodup:=hst.imp fun h=>by omega
 have hE : ∀ a b,a < b → b < s.length → (s.eraseIdx b).eraseIdx a ∈ all:=fun a b hab hb=>by
  have h1:=hg.face hs (k:=b) hb oM
  exact (hg.face h1.1 (k:=a) (by rw [h1.2]; omega) (by rw [h1.2]; omega)).1
 have hlook : lookL (all.map (celC all)) (celC all s) = renL (phiC all s) (patS s.length):=by
  unfold lookL renL patS
  show (facesC all s).map _ = _
  unfold facesC
  rw [if_neg oM,List.map_map,List.map_map]
  refine List.map_congr_left fun k hk=>?_
  have hk : k < s.length:=by simpa using hk
  have hf:=hg.face hs hk oM
  simp only [Function.comp_def]
  congr 1
  unfold sidesOf
  rw [hg.find hf.1]
  show facesC all (s.eraseIdx k) = _
  unfold facesC
  rw [hf.2,if_neg oM,List.map_map]
  refine List.map_congr_left fun q hq=>?_
  have hq : q < s.length - 1:=by simpa using hq
  obtain ⟨a,b,hab,hb,hc,hcase⟩:=code_ab hk hq
  simp only [Function.comp_def,renS]
  congr 1
  unfold phiC
  rw [hc,(code_div (a:=a) (b:=b) oM).1,(code_div (a:=a) (b:=b) oM).2]
  rcases hcase with ⟨_,rfl,rfl⟩ | ⟨h,rfl,rfl⟩
  ·rfl
  ·rw [erase_comm s h]
 rw [aroundC_L,hlook,aroundL_ren,patS_ok _ oM h3]
 have hkey : ∀ x ∈ keyL (patS s.length),∃ a b : Nat,a < b ∧ b < s.length ∧ x = ((a * 16 + b : Nat) : Int):=by
  intro x hx
  obtain ⟨p,hp,hx⟩:=List.mem_flatMap.1 hx
  obtain ⟨k,hk,rfl⟩:=List.mem_map.1 hp
  obtain ⟨r,hr,rfl⟩:=List.mem_map.1 hx
  obtain ⟨q,hq,rfl⟩:=List.mem_map.1 hr
  obtain ⟨a,b,hab,hb,hc,_⟩:=code_ab (n:=s.length) (k:=k) (q:=q) (by simpa using hk) (by simpa using hq)
  exact ⟨a,b,hab,hb,hc⟩
 intro x hx y hy h
 obtain ⟨a,b,hab,hb,rfl⟩:=hkey x hx
 obtain ⟨c,d,hcd,hd,rfl⟩:=hkey y hy
 unfold phiC at h
 rw [(code_div (a:=a) (b:=b) oM).1,(code_div (a:=a) (b:=b) oM).2,(code_div (a:=c) (b:=d) oM).1,(code_div (a:=c) (b:=d) oM).2] at h
 obtain ⟨rfl,rfl⟩:=erase2_inj hnd hab hb hcd hd (hg.inj (hE a b hab hb) (hE c d hcd hd) h)
 rfl
end
theorem chk1_fine {tl : List Cl} : ∀ {l : List Cl} {n : Int},(∀ x ∈ l,n < x.id) → l.Pairwise (fun a b=>a.id < b.id) → (∀ x ∈ l,formC tl x = 0) → chk1 tl l n = none
 | [],_,_,_,_=>rfl
 | x :: r,n,h1,h2,h3=>by
  have hx:=h1 x (by simp)
  obtain ⟨h4,h5⟩:=List.pairwise_cons.1 h2
  unfold chk1
  rw [if_neg oM,if_neg (by rw [h3 x (by simp)]; simp)]
  exact chk1_fine h4 h5 fun y hy=>h3 y (by simp [hy])
theorem chk2_fine {tl : List Cl} : ∀ {l : List Cl},(∀ x ∈ l,x.dim > 1 → aroundC tl x = 0) → chk2 tl l = none
 | [],_=>rfl
 | x :: r,h=>by
  unfold chk2
  rw [if_neg fun ⟨h1,h2⟩=>h2 (h x (by simp) h1)]
  exact chk2_fine fun y hy=>h y (by simp [hy])
theorem check_ok {l : List Cl} (h0 : l.length ≤ 4000) (h1 : ∀ x ∈ canonC l,0 < x.id) (h2 : (canonC l).Pairwise fun a b=>a.id < b.id) (h3 : ∀ x ∈ canonC l,formC (canonC l) x = 0) (h4 : ∀ x ∈ canonC l,x.dim > 1 → aroundC (canonC l) x = 0) : checkC l = (0,0):=by
 unfold checkC
 rw [if_neg oM,tabC_strict h2,chk1_fine h1 h2 h3,chk2_fine h4]
 rfl
theorem simpC_right (ls : List (List Int)) : checkC (simpC ls) = (0,0):=by
 unfold simpC
 cases h : simpAll [] ls with
 | none=>rfl
 | some all =>
  obtain ⟨hg,hl⟩:=simpAll_good ls [] h Good.nil (by simp)
  dsimp only
  have hc : canonC (canonC (simpCells all)) = all.map (celC all):=by rw [canonC_idem,hg.cells]
  have hi:=hg.ids
  rw [List.pairwise_map] at hi
  refine check_ok (by rw [hg.cells]; simpa using hl) ?_ ?_ ?_ ?_ <;> rw [hc]
  ·intro x hx
   obtain ⟨s,_,rfl⟩:=List.mem_map.1 hx
   show 0 < ixC all s
   unfold ixC
   omega
  ·exact hi
  ·intro x hx
   obtain ⟨s,hs,rfl⟩:=List.mem_map.1 hx
   exact hg.formOk hs
  ·intro x hx hd
   obtain ⟨s,hs,rfl⟩:=List.mem_map.1 hx
   refine hg.aroundOk hs ?_
   have : (s.length : Int) - 1 > 1:=hd
   omega
open Go.ChangeShapes Go.WideShapes Go.ChangeAt Go.RowKit
set_option maxRecDepth 100000
section
variable {H : Type} {enc : TypeId × Value → H} {W : World} {base : Nat} {spare : Nat → Bool} {hd : Bool}
end
inductive Cn (E : Int → Int → Prop) : Int → Int → Prop
 | refl (a : Int) : Cn E a a
 | step {a b c : Int} (h : E a b ∨ E b a) (r : Cn E b c) : Cn E a c
theorem Cn.trans {E : Int → Int → Prop} {a b c : Int} (h : Cn E a b) (k : Cn E b c) : Cn E a c:=by
 induction h with
 | refl _=>exact k
 | step h _ ih=>exact .step h (ih k)
theorem Cn.one {E : Int → Int → Prop} {a b : Int} (h : E a b) : Cn E a b:=.step (.inl h) (.refl b)
theorem Cn.symm {E : Int → Int → Prop} {a b : Int} (h : Cn E a b) : Cn E b a:=by
 induction h with
 | refl _=>exact .refl _
 | step h _ ih=>exact ih.trans (.step h.symm (.refl _))
theorem Cn.mono {E E' : Int → Int → Prop} (h : ∀ a b,E a b → Cn E' a b) {a b : Int} (hc : Cn E a b) : Cn E' a b:=by
 induction hc with
 | refl _=>exact .refl _
 | step e _ ih =>
  rcases e with e | e
  ·exact (h _ _ e).trans ih
  ·exact (h _ _ e).symm.trans ih
theorem Cn.iso {E : Int → Int → Prop} {a b : Int} (h : ∀ b,¬ E a b ∧ ¬ E b a) (hc : Cn E a b) : a = b:=by
 cases hc with
 | refl _=>rfl
 | step e _ =>
  rcases e with e | e
  ·exact absurd e (h _).1
  ·exact absurd e (h _).2
theorem Cn.add {E E' : Int → Int → Prop} {x y : Int} (h : ∀ a b,E' a b ↔ E a b ∨ (a = x ∧ b = y)) (a b : Int) : Cn E' a b ↔ Cn E a b ∨ (Cn E a x ∧ Cn E y b) ∨ (Cn E a y ∧ Cn E x b):=by
 have hxy : Cn E' x y:=.one ((h x y).2 (.inr ⟨rfl,rfl⟩))
 have hm : ∀ {a b : Int},Cn E a b → Cn E' a b:=fun hc=>hc.mono fun a b e=>.one ((h a b).2 (.inl e))
 constructor
 ·intro hc
  induction hc with
  | refl _=>exact .inl (.refl _)
  | step e _ ih =>
   have key : ∀ {p q r : Int},Cn E p q → (Cn E q r ∨ (Cn E q x ∧ Cn E y r) ∨ (Cn E q y ∧ Cn E x r)) → Cn E p r ∨ (Cn E p x ∧ Cn E y r) ∨ (Cn E p y ∧ Cn E x r):=by
    rintro p q r h1 (h2 | ⟨h2,h3⟩ | ⟨h2,h3⟩)
    ·exact .inl (h1.trans h2)
    ·exact .inr (.inl ⟨h1.trans h2,h3⟩)
    ·exact .inr (.inr ⟨h1.trans h2,h3⟩)
   rcases e with e | e
   ·rcases (h _ _).1 e with e | ⟨rfl,rfl⟩
    ·exact key (.one e) ih
    ·rcases ih with h2 | ⟨_,h3⟩ | ⟨_,h3⟩
     ·exact .inr (.inl ⟨.refl _,h2⟩)
     ·exact .inr (.inl ⟨.refl _,h3⟩)
     ·exact .inl h3
   ·rcases (h _ _).1 e with e | ⟨rfl,rfl⟩
    ·exact key (Cn.one e).symm ih
    ·rcases ih with h2 | ⟨_,h3⟩ | ⟨_,h3⟩
     ·exact .inr (.inr ⟨.refl _,h2⟩)
     ·exact .inl h3
     ·exact .inr (.inr ⟨.refl _,h3⟩)
 ·rintro (h1 | ⟨h1,h2⟩ | ⟨h1,h2⟩)
  ·exact hm h1
  ·exact (hm h1).trans (hxy.trans (hm h2))
  ·exact (hm h1).trans (hxy.symm.trans (hm h2))
def linked (ml : List (Int × List Int)) (a b : Int) : Prop:=∃ p ∈ ml,p.2.head? = some a ∧ b ∈ p.2
def RZ (e : En) (z : Int × Int) : Prop:=e.id = z.1 ∧ e.sum = z.2
def RM (e : En) (p : Int × List Int) : Prop:=e.id = p.1 ∧ e.many = p.2.length ∧ p.2.head? = some (e.fst : Int)
theorem wr_id {x : Int} (h : -9223372036854775808 ≤ x ∧ x < 9223372036854775808) : wr x = x:=IntWalk.i64_in _ oM
theorem bump_z {i : Nat} {c p : Int} : ∀ {es : List En} {zl : List (Int × Int)},All2 RZ es zl → (∀ e ∈ es,wr (e.sum + p) = e.sum + p) → wr (0 + p) = p → All2 RZ (bump i c p es) (addZ zl c p)
 | [],[],_,_,hp=>⟨⟨rfl,hp⟩,trivial⟩
 | e :: es,(a,z) :: zl,h,hb,hp=>by
  obtain ⟨⟨h1,h2⟩,h3⟩:=h
  have h1 : e.id = a:=h1
  have h2 : e.sum = z:=h2
  simp only [bump,addZ]
  by_cases hc : e.id = c
  ·rw [if_pos hc,if_pos (by rw [← h1,hc])]
   exact ⟨⟨h1,by show wr (e.sum + p) = z + p; rw [hb e (by simp),h2]⟩,h3⟩
  ·rw [if_neg hc,if_neg (by rw [← h1]; exact fun e=>hc e.symm)]
   exact ⟨⟨h1,h2⟩,bump_z h3 (fun x hx=>hb x (by simp [hx])) hp⟩
 | [],_ :: _,h,_,_=>h.elim
 | _ :: _,[],h,_,_=>h.elim
theorem bump_m {i : Nat} {c p : Int} : ∀ {es : List En} {ml : List (Int × List Int)},All2 RM es ml → (∀ e ∈ es,wr (e.many + 1) = e.many + 1) → All2 RM (bump i c p es) (addL ml c i) ∧
  ∀ a b,linked (addL ml c i) a b ↔ linked ml a b ∨ (a = fstOf i c es ∧ b = i)
 | [],[],_,_=>by
  refine ⟨⟨⟨rfl,by rfl,rfl⟩,trivial⟩,fun a b=>?_⟩
  constructor
  ·rintro ⟨q,hq,h1,h2⟩
   simp [addL] at hq
   subst hq
   simp at h1 h2
   exact .inr ⟨h1.symm,h2⟩
  ·rintro (⟨q,hq,_⟩ | ⟨rfl,rfl⟩)
   ·simp at hq
   ·exact ⟨(c,[(i : Int)]),by simp [addL],I,by simp⟩
 | e :: es,(k,l) :: ml,h,hb=>by
  obtain ⟨⟨h1,h2,h4⟩,h3⟩:=h
  have h1 : e.id = k:=h1
  have h2 : e.many = l.length:=h2
  have h4 : l.head? = some (e.fst : Int):=h4
  simp only [bump,addL,fstOf]
  by_cases hc : e.id = c
  ·rw [if_pos hc,if_pos (by rw [← h1,hc]),if_pos hc]
   have hh : (l ++ [(i : Int)]).head? = some (e.fst : Int):=by
    cases l with
    | nil=>simp at h4
    | cons x r=>simpa using h4
   refine ⟨⟨⟨h1,by show wr (e.many + 1) = _; rw [hb e (by simp),h2]; simp,hh⟩,h3⟩,fun a b=>?_⟩
   constructor
   ·rintro ⟨q,hq,h5,h6⟩
    rcases List.mem_cons.1 hq with rfl | hq
    ·dsimp only at h5 h6
     rw [hh] at h5
     rcases List.mem_append.1 h6 with h6 | h6
     ·exact .inl ⟨(k,l),by simp,by rw [h4,h5],h6⟩
     ·simp at h6
      injection h5 with h5
      exact .inr ⟨h5.symm,h6⟩
    ·exact .inl ⟨q,by simp [hq],h5,h6⟩
   ·rintro (⟨q,hq,h5,h6⟩ | ⟨rfl,rfl⟩)
    ·rcases List.mem_cons.1 hq with rfl | hq
     ·exact ⟨(k,l ++ [(i : Int)]),by simp,by rw [hh,← h4,h5],by simp [h6]⟩
     ·exact ⟨q,by simp [hq],h5,h6⟩
    ·exact ⟨(k,l ++ [(i : Int)]),by simp,hh,by simp⟩
  ·rw [if_neg hc,if_neg (by rw [← h1]; exact fun e=>hc e.symm),if_neg hc]
   obtain ⟨i1,i2⟩:=bump_m (i:=i) (c:=c) (p:=p) h3 fun x hx=>hb x (by simp [hx])
   refine ⟨⟨⟨h1,h2,h4⟩,i1⟩,fun a b=>?_⟩
   have e1 : ∀ L,linked ((k,l) :: L) a b ↔ (l.head? = some a ∧ b ∈ l) ∨ linked L a b:=fun L=>by
    unfold linked
    simp
   rw [e1,e1,i2,or_assoc]
 | [],_ :: _,h,_=>h.elim
 | _ :: _,[],h,_=>h.elim
structure Sd (n t k : Nat) (es : List En) (part : List Int) (zl : List (Int × Int)) (ml : List (Int × List Int)) : Prop where
 z : All2 RZ es zl
 m : All2 RM es ml
 bz : ∀ e ∈ es,-(t : Int) ≤ e.sum ∧ e.sum ≤ t ∧ 0 ≤ e.many ∧ e.many ≤ t
 bf : ∀ e ∈ es,e.fst < k
 bm : ∀ p ∈ ml,∀ x ∈ p.2,0 ≤ x ∧ x < k
 len : part.length = n
 bp : ∀ a,a < k → 0 ≤ part.getD a 0 ∧ part.getD a 0 < k
 cn : ∀ a b : Nat,a < k → b < k → (part.getD a 0 = part.getD b 0 ↔ Cn (linked ml) a b)
theorem linked_in {ml : List (Int × List Int)} {k : Nat} (h : ∀ p ∈ ml,∀ x ∈ p.2,0 ≤ x ∧ x < (k : Int)) {a b : Int} (hl : linked ml a b) : (0 ≤ a ∧ a < k) ∧ (0 ≤ b ∧ b < k):=by
 obtain ⟨p,hp,h1,h2⟩:=hl
 exact ⟨h p hp a (List.mem_of_head? h1),h p hp b h2⟩
theorem Sd.open {n t k : Nat} {es : List En} {part : List Int} {zl : List (Int × Int)} {ml : List (Int × List Int)} (h : Sd n t k es part zl ml) (hk : k < n) : Sd n t (k + 1) es (part.set k k) zl ml:=by
 have hl:=h.len
 have g1 : (part.set k (k : Int)).getD k 0 = k:=by rw [List.getD_eq_getElem?_getD,List.getElem?_set]; simp [hl,hk]
 have g2 : ∀ a,a ≠ k → (part.set k (k : Int)).getD a 0 = part.getD a 0:=fun a ha=>by
  rw [List.getD_eq_getElem?_getD,List.getD_eq_getElem?_getD,List.getElem?_set,if_neg fun e=>ha e.symm]
 have iso : ∀ b,¬ linked ml k b ∧ ¬ linked ml b k:=fun b=>⟨fun e=>by have:=linked_in h.bm e; omega,fun e=>by have:=linked_in h.bm e; omega⟩
 refine ⟨h.z,h.m,h.bz,fun e he=>by have:=h.bf e he; omega,fun p hp x hx=>by have:=h.bm p hp x hx; omega,by simp [hl],fun a ha=>?_,fun a b ha hb=>?_⟩
 ·by_cases e : a = k
  ·subst e; rw [g1]; omega
  ·rw [g2 a e]; have:=h.bp a oM; omega
 ·by_cases e : a = k <;> by_cases e2 : b = k
  ·subst e; subst e2; exact ⟨fun _=>.refl _,fun _=>rfl⟩
  ·subst e
   rw [g1,g2 b e2]
   have:=h.bp b oM
   exact ⟨fun h=>by omega,fun hc=>by have:=hc.iso iso; omega⟩
  ·subst e2
   rw [g1,g2 a e]
   have:=h.bp a oM
   exact ⟨fun h=>by omega,fun hc=>by have:=hc.symm.iso iso; omega⟩
  ·rw [g2 a e,g2 b e2]
   exact h.cn a b oM oM
theorem relabT_getD {m : Nat} {old now : Int} {p : List Int} {a : Nat} (h : a < p.length) (hm : a < m) : (relabT m old now p).getD a 0 = if p.getD a 0 = now then old else p.getD a 0:=by
 rw [List.getD_eq_getElem?_getD,List.getD_eq_getElem?_getD]
 simp only [relabT,List.getElem?_mapIdx,gE h,Option.map_some,Option.getD_some,hm,true_and]
theorem fstOf_lt {i : Nat} {c : Int} {es : List En} (h : ∀ e ∈ es,e.fst < i + 1) : fstOf i c es < i + 1:=by
 induction es with
 | nil=>exact Nat.lt_succ_self i
 | cons e r ih =>
  unfold fstOf
  split
  ·exact h e (by simp)
  ·exact ih fun x hx=>h x (by simp [hx])
theorem bump_all {P : En → Prop} {i : Nat} {c p : Int} (hn : P (En.up ⟨c,0,0,i⟩ p)) (hu : ∀ e,P e → P (e.up p)) (ho : ∀ e,P e → P e) : ∀ {es : List En},(∀ e ∈ es,P e) → ∀ e ∈ bump i c p es,P e
 | [],_,e,he=>by simp [bump] at he; subst he; exact hn
 | x :: r,h,e,he=>by
  unfold bump at he
  split at he
  ·rcases List.mem_cons.1 he with rfl | he
   ·exact hu x (h x (by simp))
   ·exact h e (by simp [he])
  ·rcases List.mem_cons.1 he with rfl | he
   ·exact h e (by simp)
   ·exact bump_all hn hu ho (fun y hy=>h y (by simp [hy])) e he
theorem addL_all {P : Int → Prop} {c : Int} {i : Int} (hi : P i) : ∀ {ml : List (Int × List Int)},(∀ p ∈ ml,∀ x ∈ p.2,P x) → ∀ p ∈ addL ml c i,∀ x ∈ p.2,P x
 | [],_,p,hp,x,hx=>by simp [addL] at hp; subst hp; simp at hx; subst hx; exact hi
 | (k,l) :: r,h,p,hp,x,hx=>by
  unfold addL at hp
  split at hp
  ·rcases List.mem_cons.1 hp with rfl | hp
   ·rcases List.mem_append.1 hx with hx | hx
    ·exact h (k,l) (by simp) x hx
    ·simp at hx; subst hx; exact hi
   ·exact h p (by simp [hp]) x hx
  ·rcases List.mem_cons.1 hp with rfl | hp
   ·exact h (k,l) (by simp) x hx
   ·exact addL_all hi (fun q hq=>h q (by simp [hq])) p hp x hx
theorem Sd.next {n t i : Nat} {es : List En} {part : List Int} {zl : List (Int × Int)} {ml : List (Int × List Int)} {x r : Side} (h : Sd n t (i + 1) es part zl ml) (hi : i < n) (ht : t < 1000000) (hx : x.sign = 1 ∨ x.sign = -1) (hr : r.sign = 1 ∨ r.sign = -1) :
  Sd n (t + 1) (i + 1) (stepR i x.sign (es,part) r).1 (stepR i x.sign (es,part) r).2 (stepZ x zl r) (stepL i ml r):=by
 have hp:=sign_mul hx hr
 have hw : wr (x.sign * r.sign) = x.sign * r.sign:=wr_id oM
 unfold stepR stepZ stepL
 dsimp only
 rw [hw]
 generalize x.sign * r.sign = p at *
 have hl:=h.len
 have hbm:=bump_m (i:=i) (c:=r.cell) (p:=p) h.m fun e he=>by have:=h.bz e he; exact wr_id oM
 have hf:=fstOf_lt (c:=r.cell) h.bf
 refine ⟨bump_z h.z (fun e he=>by have:=h.bz e he; exact wr_id oM) (by rw [Int.zero_add]; exact wr_id oM),hbm.1,?_,?_,?_,by rw [relabT_length]; exact hl,fun a ha=>?_,fun a b ha hb=>?_⟩
 ·have : ∀ e ∈ bump i r.cell p es,(-(t : Int) ≤ e.sum ∧ e.sum ≤ t ∧ 0 ≤ e.many ∧ e.many ≤ t) ∨ (-((t + 1 : Nat) : Int) ≤ e.sum ∧ e.sum ≤ ((t + 1 : Nat) : Int) ∧ 0 ≤ e.many ∧ e.many ≤ ((t + 1 : Nat) : Int)):=by
   have h0:=h.bz
   clear h hbm hf hl
   generalize hes : bump i r.cell p es = fs
   intro e he
   subst hes
   induction es with
   | nil =>
    simp [bump] at he
    subst he
    right
    simp only [En.up]
    rw [wr_id oM,wr_id oM]
    omega
   | cons y q ih =>
    unfold bump at he
    split at he
    ·rcases List.mem_cons.1 he with rfl | he
     ·right
      have:=h0 y (by simp)
      simp only [En.up]
      rw [wr_id oM,wr_id oM]
      omega
     ·exact .inl (h0 e (by simp [he]))
    ·rcases List.mem_cons.1 he with rfl | he
     ·exact .inl (h0 e (by simp))
     ·exact ih (fun z hz=>h0 z (by simp [hz])) he
  intro e he
  rcases this e he with h1 | h1 <;> omega
 ·exact bump_all (P:=fun e=>e.fst < i + 1) (Nat.lt_succ_self i) (fun e he=>he) (fun e he=>he) h.bf
 ·exact addL_all (P:=fun x=>0 ≤ x ∧ x < ((i + 1 : Nat) : Int)) oM h.bm
 ·rw [relabT_getD oM ha]
  split
  ·exact h.bp _ hf
  ·exact h.bp a ha
 ·rw [relabT_getD oM ha,relabT_getD oM hb,Cn.add (x:=(fstOf i r.cell es : Int)) (y:=(i : Int)) hbm.2 a b]
  rw [← h.cn a b ha hb,← h.cn a _ ha hf,← h.cn i b oM hb,← h.cn a i ha oM,← h.cn _ b hf hb]
  generalize part.getD a 0 = pa
  generalize part.getD b 0 = pb
  generalize part.getD i 0 = pi
  generalize part.getD (fstOf i r.cell es) 0 = pf
  by_cases h1 : pa = pi <;> by_cases h2 : pb = pi <;> simp [h1,h2] <;> omega
theorem Sd.inner {n i : Nat} {x : Side} (hi : i < n) (hx : x.sign = 1 ∨ x.sign = -1) : ∀ (l : List Side) {t : Nat} {es : List En} {part : List Int} {zl : List (Int × Int)} {ml : List (Int × List Int)},Sd n t (i + 1) es part zl ml → t + l.length < 1000000 → (∀ r ∈ l,r.sign = 1 ∨ r.sign = -1) →
  Sd n (t + l.length) (i + 1) (l.foldl (stepR i x.sign) (es,part)).1 (l.foldl (stepR i x.sign) (es,part)).2 (l.foldl (stepZ x) zl) (l.foldl (stepL i) ml)
 | [],_,_,_,_,_,h,_,_=>h
 | r :: l,t,es,part,zl,ml,h,ht,hr=>by
  simp only [List.length_cons] at ht
  have h1:=h.next (x:=x) (r:=r) hi oM hx (hr r (by simp))
  have:=Sd.inner hi hx l h1 oM (fun q hq=>hr q (by simp [hq]))
  simp only [List.foldl_cons,List.length_cons]
  rw [show t + (l.length + 1) = t + 1 + l.length by omega]
  exact this
theorem Sd.outer {tl : List Cl} {n : Nat} : ∀ (l : List Side) {t k : Nat} {es : List En} {part : List Int} {zl : List (Int × Int)} {ml : List (Int × List Int)},Sd n t k es part zl ml → k + l.length ≤ n → t + 64 * l.length < 1000000 → (∀ x ∈ l,x.sign = 1 ∨ x.sign = -1) → (∀ x ∈ l,(sidesOf tl x).length ≤ 64 ∧ ∀ r ∈ sidesOf tl x,r.sign = 1 ∨ r.sign = -1) →
  ∃ t',Sd n t' (k + l.length) ((l.zipIdx k).foldl (stepS tl) (es,part)).1 ((l.zipIdx k).foldl (stepS tl) (es,part)).2 (l.foldl (fun zl x=>(sidesOf tl x).foldl (stepZ x) zl) zl) ((l.zipIdx k).foldl (fun ml p=>(sidesOf tl p.1).foldl (stepL p.2) ml) ml)
 | [],t,_,_,_,_,_,h,_,_,_,_=>⟨t,h⟩
 | x :: l,t,k,es,part,zl,ml,h,hk,ht,hs,hq=>by
  simp only [List.length_cons] at hk ht
  have h0:=hq x (by simp)
  have h1:=(h.open oM).inner (x:=x) oM (hs x (by simp)) (sidesOf tl x) oM h0.2
  obtain ⟨t',h2⟩:=Sd.outer l h1 oM oM (fun y hy=>hs y (by simp [hy])) (fun y hy=>hq y (by simp [hy]))
  refine ⟨t',?_⟩
  simp only [List.zipIdx_cons,List.foldl_cons,List.length_cons]
  rw [show k + (l.length + 1) = k + 1 + l.length by omega]
  exact h2
theorem all2_anyR {α β : Type} {R : α → β → Prop} {p : α → Bool} {q : β → Bool} (h : ∀ a b,R a b → p a = q b) : ∀ {l : List α} {m : List β},All2 R l m → l.any p = m.any q
 | [],[],_=>rfl
 | a :: l,b :: m,hr=>by simp only [List.any_cons,h a b hr.1,all2_anyR h hr.2]
 | [],_ :: _,hr=>hr.elim
 | _ :: _,[],hr=>hr.elim
theorem rch_cn {ml : List (Int × List Int)} (h2 : ∀ p ∈ ml,p.2.length = 2) (a b : Int) : Rch (adjJ (joinC ml)) a b ↔ Cn (linked ml) a b:=by
 have hstep : ∀ x y,y ∈ getL (joinC ml) x → Cn (linked ml) x y:=fun x y hy=>by
  obtain ⟨p,hp,h⟩:=(mem_join ml x y).1 hy
  rcases h with h | h
  ·exact .one ⟨p,hp,by rw [h]; rfl,by rw [h]; simp⟩
  ·exact (Cn.one (E:=linked ml) ⟨p,hp,by rw [h]; rfl,by rw [h]; simp⟩).symm
 have hadj : ∀ x,adjJ (joinC ml) x ≠ none:=fun x=>by simp [adjJ]
 constructor
 ·intro h
  induction h with
  | refl _ _=>exact .refl _
  | step x y _ l hl hy _ ih =>
   simp only [adjJ,Option.some.injEq] at hl
   subst hl
   exact (hstep x y hy).trans ih
 ·intro h
  induction h with
  | refl a=>exact .refl a (hadj a)
  | @step x y z e _ ih =>
   have key : ∀ u v,linked ml u v → v = u ∨ v ∈ getL (joinC ml) u:=fun u v ⟨p,hp,h3,h4⟩=>by
    have:=h2 p hp
    match hq : p.2,this with
    | [c,d],_ =>
     rw [hq] at h3 h4
     simp at h3 h4
     subst h3
     rcases h4 with h4 | h4
     ·exact .inl h4
     ·exact .inr ((mem_join ml c v).2 ⟨p,hp,.inl (by rw [hq,h4])⟩)
   rcases e with e | e
   ·rcases key x y e with rfl | h5
    ·exact ih
    ·exact .step x y z _ I h5 ih
   ·rcases key y x e with rfl | h5
    ·exact ih
    ·refine .step x y z _ I ?_ ih
     obtain ⟨p,hp,h6⟩:=(mem_join ml y x).1 h5
     exact (mem_join ml x y).2 ⟨p,hp,h6.symm⟩
theorem nodup_nat {l : List Int} (hn : l.Nodup) (hb : ∀ x ∈ l,0 ≤ x) : (l.map Int.toNat).Nodup:=by
 rw [List.Nodup,List.pairwise_map]
 refine List.Pairwise.imp_of_mem ?_ hn
 intro a b ha hb' hne e
 have:=hb a ha
 have:=hb b hb'
 omega
theorem nodup_leI {l : List Int} {n : Nat} (hn : l.Nodup) (hb : ∀ x ∈ l,0 ≤ x ∧ x < (n : Int)) : l.length ≤ n:=by
 have h1:=nodup_nat hn fun x hx=>(hb x hx).1
 have:=length_le_of_nodup (l:=List.range n) h1 List.nodup_range fun x hx=>by
  obtain ⟨y,hy,rfl⟩:=List.mem_map.1 hx
  have:=hb y hy
  exact List.mem_range.2 oM
 simpa using this
theorem second_around {tl : List Cl} {c : Cl} (hok : AOk tl c) (h0 : 0 < c.sides.length) : secondC tl c = aroundC tl c:=by
 obtain ⟨h64,hs,hq⟩:=hok
 have start : Sd c.sides.length 0 0 [] (List.replicate c.sides.length 0) [] []:=⟨trivial,trivial,by simp,by simp,by simp,by simp,by simp,fun a b ha=>by omega⟩
 obtain ⟨t,hd⟩:=start.outer c.sides (tl:=tl) oM oM hs hq
 have e1 : ((c.sides.zipIdx 0).foldl (stepS tl) ([],List.replicate c.sides.length 0)) = secSt tl c.sides c.sides.length:=rfl
 rw [e1] at hd
 have hz : All2 RZ (secSt tl c.sides c.sides.length).1 (sumsC tl c.sides):=hd.z
 have hm : All2 RM (secSt tl c.sides c.sides.length).1 (metC tl c.sides):=hd.m
 unfold secondC aroundC
 rw [all2_anyR (p:=fun e=>decide (e.sum ≠ 0)) (q:=fun p : Int × Int=>decide (p.2 ≠ 0)) (fun a b h=>by rw [h.2]) hz]
 rw [all2_anyR (p:=fun e=>decide (e.many ≠ 2)) (q:=fun p : Int × List Int=>decide ((p.2.length : Int) ≠ 2)) (fun a b h=>by rw [h.2.1]) hm]
 split
 ·rfl
 ·split
  ·rfl
  ·rename_i hno
   have h2 : ∀ p ∈ metC tl c.sides,p.2.length = 2:=fun p hp=>by
    have:=List.any_eq_false.1 ((Bool.not_eq_true _).mp hno) p hp
    simp at this
    omega
   have hbm : ∀ p ∈ metC tl c.sides,∀ x ∈ p.2,0 ≤ x ∧ x < ((0 + c.sides.length : Nat) : Int):=hd.bm
   rw [Nat.zero_add] at hbm
   have hcn : ∀ a b : Nat,a < c.sides.length → b < c.sides.length → ((secSt tl c.sides c.sides.length).2.getD a 0 = (secSt tl c.sides c.sides.length).2.getD b 0 ↔ Rch (adjJ (joinC (metC tl c.sides))) a b):=fun a b ha hb=>by
    rw [rch_cn h2]
    exact hd.cn a b oM oM
   have hln:=hd.len
   have hmem : ∀ x : Int,x ∈ seenC (joinC (metC tl c.sides)) ↔ Rch (adjJ (joinC (metC tl c.sides))) 0 x:=fun x=>mem_dfs (cnt:=cntK (joinC (metC tl c.sides))) (fun v v' h=>cntK_mono h) (cntK_strict _) (Nat.lt_succ_of_le (List.length_filter_le _ _)) (by simp [adjJ]) x
   have hnd : (seenC (joinC (metC tl c.sides))).Nodup:=dfs_nodup _ _ _ _ (by simp)
   have hin : ∀ x ∈ seenC (joinC (metC tl c.sides)),0 ≤ x ∧ x < (c.sides.length : Int):=fun x hx=>by
    have hr:=(rch_cn h2 0 x).1 ((hmem x).1 hx)
    have : ∀ a b,Cn (linked (metC tl c.sides)) a b → (0 ≤ a ∧ a < (c.sides.length : Int)) → (0 ≤ b ∧ b < (c.sides.length : Int)):=by
     intro a b h
     induction h with
     | refl _=>exact fun h=>h
     | step e _ ih =>
      intro _
      rcases e with e | e
      ·exact ih (linked_in hbm e).2
      ·exact ih (linked_in hbm e).1
    exact this 0 x hr oM
   generalize (secSt tl c.sides c.sides.length).2 = part at *
   generalize seenC (joinC (metC tl c.sides)) = seen at *
   by_cases hall : ∀ a,a < c.sides.length → part.getD a 0 = part.getD 0 0
   ·have hf : part.any (fun x=>decide (x ≠ part.getD 0 0)) = false:=by
     rw [List.any_eq_false]
     intro x hx
     obtain ⟨i,hi,rfl⟩:=List.getElem_of_mem hx
     have:=hall i oM
     rw [List.getD_eq_getElem?_getD,gE hi] at this
     simpa using this
    have hlen : seen.length = c.sides.length:=by
     refine Nat.le_antisymm (nodup_leI hnd hin) ?_
     have h3:=length_le_of_nodup (m:=List.range c.sides.length) (l:=seen.map Int.toNat) List.nodup_range (nodup_nat hnd fun x hx=>(hin x hx).1) fun i hi=>by
      have hi:=List.mem_range.1 hi
      exact List.mem_map.2 ⟨(i : Int),(hmem i).2 ((hcn 0 i h0 hi).1 (hall i hi).symm),by simp⟩
     simpa using h3
    rw [hf,hlen]
    simp
   ·have ht : part.any (fun x=>decide (x ≠ part.getD 0 0)) = true:=by
     simp only [Classical.not_forall] at hall
     obtain ⟨a,ha,hne⟩:=hall
     rw [List.any_eq_true]
     refine ⟨part.getD a 0,?_,by simpa using hne⟩
     rw [List.getD_eq_getElem?_getD,gE oM]
     exact gM _
    have hlen : (seen.length : Int) ≠ c.sides.length:=by
     simp only [Classical.not_forall] at hall
     obtain ⟨a,ha,hne⟩:=hall
     have hna : (a : Int) ∉ seen:=fun h=>hne ((hcn 0 a h0 ha).2 ((hmem a).1 h)).symm
     have:=nodup_leI (l:=(a : Int) :: seen) (n:=c.sides.length) (List.nodup_cons.2 ⟨hna,hnd⟩) fun x hx=>by
      rcases List.mem_cons.1 hx with rfl | hx
      ·omega
      ·exact hin x hx
     simp at this
     omega
    rw [ht,if_pos rfl,if_pos hlen]
theorem chk1_none_form {tl : List Cl} : ∀ {l : List Cl} {n : Int},chk1 tl l n = none → l.Pairwise (fun a b=>a.id < b.id) ∧ (∀ x ∈ l,n < x.id) ∧ ∀ x ∈ l,formC tl x = 0
 | [],_,_=>⟨List.Pairwise.nil,by simp,by simp⟩
 | x :: r,n,h=>by
  unfold chk1 at h
  split at h
  ·cases h
  ·rename_i hid
   split at h
   ·cases h
   ·rename_i hf
    obtain ⟨h1,h2,h3⟩:=chk1_none_form h
    refine ⟨List.pairwise_cons.2 ⟨h2,h1⟩,fun y hy=>?_,fun y hy=>?_⟩
    ·rcases List.mem_cons.1 hy with rfl | hy
     ·omega
     ·have:=h2 y hy; omega
    ·rcases List.mem_cons.1 hy with rfl | hy
     ·exact Decidable.of_not_not hf
     ·exact h3 y hy
theorem refCheckC_eq (l : List Cl) : refCheckC l = checkC l:=by
 unfold refCheckC checkC
 split
 ·rfl
 ·cases h : chk1 (tabC l) (canonC l) 0 with
  | some p=>rfl
  | none =>
   obtain ⟨h1,_,h3⟩:=chk1_none_form h
   have ht:=tabC_strict h1
   have key : ∀ m : List Cl,(∀ x ∈ m,x ∈ canonC l) → chkR2 (canonC l) m = chk2 (tabC l) m:=by
    intro m
    induction m with
    | nil=>intro _; rfl
    | cons x r ih =>
     intro hm
     have hx:=hm x (by simp)
     unfold chkR2 chk2
     rw [ih fun y hy=>hm y (by simp [hy])]
     by_cases hd : x.dim > 1
     ·have hok:=aok_of h3 hx
      have hn : 0 < x.sides.length:=by
       have hf:=h3 x hx
       unfold formC at hf
       split at hf
       ·cases hf
       ·split at hf
        ·cases hf
        ·rename_i hc
         simp [cntBad] at hc
         have:=hc.2 hd
         omega
      rw [ht] at hok ⊢
      rw [second_around hok hn]
     ·simp [hd]
   rw [key _ fun x hx=>hx]
set_option maxRecDepth 10000
theorem check_ne {l : List Cl} (h : (checkC l).2 = 0) : chk1 (tabC l) (canonC l) 0 = none:=by
 unfold checkC at h
 split at h
 ·simp at h
 ·cases h1 : chk1 (tabC l) (canonC l) 0 with
  | none=>rfl
  | some p=>rw [h1] at h; exact absurd h (chk1_ne h1)
theorem prod_ref (a b : List Cl) : refProdC a b = prodC a b:=by
 have hb : refProdBad a b = prodBad a b:=by
  unfold refProdBad prodBad
  rw [refCheckC_eq,refCheckC_eq]
  by_cases h1 : (checkC a).2 = 0
  ·by_cases h2 : (checkC b).2 = 0
   ·rw [tabC_strict (chk1_none_form (check_ne h1)).1,tabC_strict (chk1_none_form (check_ne h2)).1,canonC_length,canonC_length]
   ·simp [h2]
  ·simp [h1]
 unfold refProdC prodC
 rw [hb,refCheckC_eq]
section
variable {A : List (List Int)} (hA : Good A)
include hA
end
theorem form_of {tl : List Cl} {c : Cl} (h1 : 0 ≤ c.dim ∧ c.dim ≤ 8) (h2 : cntBad c = false) (h3 : ∀ x ∈ c.sides,∃ d,findT tl x.cell = some d ∧ d.dim = c.dim - 1) (h4 : c.sides.Pairwise fun a b=>a.cell < b.cell) (h5 : ∀ x ∈ c.sides,x.sign = 1 ∨ x.sign = -1) (h6 : c.dim = 1 → sumS c.sides = 0) : formC tl c = 0:=by
 have e1 : dimBad c = false:=by unfold dimBad; simp; omega
 have e3 : (List.range c.sides.length).any (badAt tl c) = false:=by
  rw [List.any_eq_false]
  intro i hi
  have hi:=List.mem_range.1 hi
  obtain ⟨d,hd1,hd2⟩:=h3 _ (gM hi)
  unfold badAt
  rw [gE hi]
  show ¬ badSide _ _ i c.sides[i] = true
  unfold badSide
  rw [hd1]
  simp only [Option.isSome_some,Bool.not_true,Bool.false_or,Option.getD_some,hd2,ne_eq,not_true_eq_false,decide_false]
  by_cases hi0 : i > 0
  ·have hlt:=List.pairwise_iff_getElem.1 h4 (i - 1) i oM hi oM
   rw [gE oM]
   simp
   omega
  ·simp [hi0]
 have e4 : c.sides.any signBad = false:=by
  rw [List.any_eq_false]
  intro x hx
  rcases h5 x hx with h | h <;> simp [signBad,h]
 have e5 : (decide (c.dim = 1) && decide (sumS c.sides ≠ 0)) = false:=by
  by_cases hd : c.dim = 1
  ·rw [h6 hd]; simp
  ·simp [hd]
 unfold formC
 rw [e1,h2,e3,e4,e5]
 rfl
section
variable {A B : List (List Int)} (hA : Good A) (hB : Good B)
include hA hB
omit hA in
omit hA in
end
section
variable {A B : List (List Int)} (hA : Good A) (hB : Good B)
include hA hB
end
structure Few (a : List Cl) (A : List (List Int)) : Prop where
 good : Good A
 cells : a = A.map (celC A)
 small : ∀ s ∈ A,s.length ≤ 3
 few : A.length ≤ 14
def sumR (tl : List Cl) (l : List Side) (r : Int) : Int:=(l.flatMap fun x=>(sidesOf tl x).map fun q=>if q.cell = r then x.sign * q.sign else 0).sum
def hits (tl : List Cl) (x : Side) (r : Int) : Nat:=((sidesOf tl x).filter fun q=>decide (q.cell = r)).length
def cntR (tl : List Cl) (l : List Side) (r : Int) : Nat:=(l.map fun x=>hits tl x r).sum
def share (tl : List Cl) (l : List Side) (a b : Int) : Prop:=∃ x ∈ l,∃ y ∈ l,x.cell = a ∧ y.cell = b ∧ ∃ r,0 < hits tl x r ∧ 0 < hits tl y r
theorem getZ_addZ (zl : List (Int × Int)) (k x r : Int) : getZ (addZ zl k x) r = getZ zl r + if r = k then x else 0:=by
 induction zl with
 | nil =>
  simp only [addZ,getZ]
  split <;> simp
 | cons p q ih =>
  obtain ⟨a,z⟩:=p
  simp only [addZ]
  by_cases h : k = a
  ·subst h
   simp only [if_true,getZ]
   split <;> simp
  ·rw [if_neg h]
   simp only [getZ,ih]
   by_cases hr : r = a
   ·subst hr
    rw [if_pos rfl,if_pos rfl,if_neg fun e=>h e.symm]
    omega
   ·rw [if_neg hr,if_neg hr]
theorem getZ_inner (x : Side) (r : Int) : ∀ (l : List Side) (zl : List (Int × Int)),getZ (l.foldl (stepZ x) zl) r = getZ zl r + (l.map fun q=>if q.cell = r then x.sign * q.sign else 0).sum
 | [],zl=>by simp
 | q :: l,zl=>by
  simp only [List.foldl_cons,List.map_cons,List.sum_cons]
  rw [getZ_inner x r l,stepZ,getZ_addZ]
  by_cases h : r = q.cell
  ·rw [if_pos h,if_pos h.symm]; omega
  ·rw [if_neg h,if_neg fun e=>h e.symm]; omega
theorem getZ_sums (tl : List Cl) (l : List Side) (r : Int) : getZ (sumsC tl l) r = sumR tl l r:=by
 have : ∀ (l : List Side) (zl : List (Int × Int)),getZ (l.foldl (fun zl x=>(sidesOf tl x).foldl (stepZ x) zl) zl) r = getZ zl r + sumR tl l r:=by
  intro l
  induction l with
  | nil=>intro zl; simp [sumR]
  | cons x q ih =>
   intro zl
   simp only [List.foldl_cons]
   rw [ih,getZ_inner]
   simp only [sumR,List.flatMap_cons,List.sum_append]
   omega
 have h:=this l []
 simpa [sumsC,getZ] using h
theorem addZ_keys (ml : List (Int × Int)) (k x : Int) : (addZ ml k x).map Prod.fst = if ml.any (fun p=>decide (p.1 = k)) then ml.map Prod.fst else ml.map Prod.fst ++ [k]:=by
 induction ml with
 | nil=>simp [addZ]
 | cons p r ih =>
  obtain ⟨a,l⟩:=p
  simp only [addZ]
  by_cases h : k = a
  ·subst h
   simp
  ·have h2 : ¬ a = k:=fun e=>h e.symm
   rw [if_neg h]
   simp only [List.map_cons,ih,List.any_cons,h2,decide_false,Bool.false_or]
   split <;> simp
theorem addZ_nodup {ml : List (Int × Int)} (h : (ml.map Prod.fst).Nodup) (k x : Int) : ((addZ ml k x).map Prod.fst).Nodup:=by
 rw [addZ_keys]
 split
 ·exact h
 ·rename_i hk
  rw [List.nodup_append]
  refine ⟨h,by simp,fun a ha b hb e=>hk ?_⟩
  simp at hb
  subst hb
  obtain ⟨p,hp,hpe⟩:=List.mem_map.1 ha
  rw [List.any_eq_true]
  exact ⟨p,hp,by simp [hpe,e]⟩
theorem sumsC_nodup (tl : List Cl) (l : List Side) : ((sumsC tl l).map Prod.fst).Nodup:=by
 have h1 : ∀ (x : Side) (q : List Side) (zl : List (Int × Int)),(zl.map Prod.fst).Nodup → ((q.foldl (stepZ x) zl).map Prod.fst).Nodup:=by
  intro x q
  induction q with
  | nil=>intro zl h; exact h
  | cons r t ih=>intro zl h; exact ih _ (addZ_nodup h _ _)
 have h2 : ∀ (q : List Side) (zl : List (Int × Int)),(zl.map Prod.fst).Nodup → ((q.foldl (fun zl x=>(sidesOf tl x).foldl (stepZ x) zl) zl).map Prod.fst).Nodup:=by
  intro q
  induction q with
  | nil=>intro zl h; exact h
  | cons x t ih=>intro zl h; exact ih _ (h1 _ _ _ h)
 exact h2 _ _ (by simp)
theorem getZ_mem : ∀ {zl : List (Int × Int)},(zl.map Prod.fst).Nodup → ∀ p ∈ zl,getZ zl p.1 = p.2
 | [],_,p,hp=>by simp at hp
 | (a,z) :: r,h,p,hp=>by
  simp only [List.map_cons,List.nodup_cons] at h
  rcases List.mem_cons.1 hp with rfl | hp
  ·simp [getZ]
  ·simp only [getZ]
   rw [if_neg fun e=>h.1 (List.mem_map.2 ⟨p,hp,e⟩)]
   exact getZ_mem h.2 p hp
theorem getZ_some : ∀ {zl : List (Int × Int)} {k : Int},getZ zl k ≠ 0 → ∃ p ∈ zl,p.1 = k ∧ p.2 = getZ zl k
 | [],_,h=>by simp [getZ] at h
 | (a,z) :: r,k,h=>by
  simp only [getZ] at h ⊢
  split
  ·rename_i e
   exact ⟨(a,z),by simp,e.symm,I⟩
  ·rename_i e
   rw [if_neg e] at h
   obtain ⟨p,hp,h1,h2⟩:=getZ_some h
   exact ⟨p,by simp [hp],h1,h2⟩
theorem sums_none (tl : List Cl) (l : List Side) : (sumsC tl l).any (fun p=>decide (p.2 ≠ 0)) = false ↔ ∀ r,sumR tl l r = 0:=by
 rw [List.any_eq_false]
 constructor
 ·intro h r
  rw [← getZ_sums]
  refine Decidable.of_not_not fun hne=>?_
  obtain ⟨p,hp,_,h2⟩:=getZ_some hne
  exact h p hp (by simpa [h2] using hne)
 ·intro h p hp
  have:=getZ_mem (sumsC_nodup tl l) p hp
  rw [getZ_sums,h] at this
  simp [← this]
theorem getL_inner (i r : Int) : ∀ (l : List Side) (ml : List (Int × List Int)),getL (l.foldl (stepL i) ml) r = getL ml r ++ List.replicate (l.filter fun q=>decide (q.cell = r)).length i
 | [],ml=>by simp
 | q :: l,ml=>by
  simp only [List.foldl_cons]
  rw [getL_inner i r l,stepL,getL_addL,List.filter_cons]
  by_cases h : r = q.cell
  ·rw [if_pos h,if_pos (by simp [h])]
   simp [List.replicate_succ]
  ·rw [if_neg h,if_neg (by simp; exact fun e=>h e.symm)]
theorem getL_met (tl : List Cl) (l : List Side) (r : Int) : getL (metC tl l) r = l.zipIdx.flatMap fun p=>List.replicate (hits tl p.1 r) (p.2 : Int):=by
 have : ∀ (q : List (Side × Nat)) (ml : List (Int × List Int)),getL (q.foldl (fun ml p=>(sidesOf tl p.1).foldl (stepL p.2) ml) ml) r = getL ml r ++ q.flatMap fun p=>List.replicate (hits tl p.1 r) (p.2 : Int):=by
  intro q
  induction q with
  | nil=>intro ml; simp
  | cons p t ih =>
   intro ml
   simp only [List.foldl_cons]
   rw [ih,getL_inner]
   simp [hits]
 have h:=this l.zipIdx []
 simpa [metC,getL] using h
theorem met_len (tl : List Cl) (l : List Side) (r : Int) : (getL (metC tl l) r).length = cntR tl l r:=by
 rw [getL_met]
 have : ∀ (l : List Side) (k : Nat),((l.zipIdx k).flatMap fun p=>List.replicate (hits tl p.1 r) (p.2 : Int)).length = cntR tl l r:=by
  intro l
  induction l with
  | nil=>intro k; rfl
  | cons x q ih=>intro k; simp only [List.zipIdx_cons,List.flatMap_cons,List.length_append,List.length_replicate,ih,cntR,List.map_cons,List.sum_cons]
 exact this l 0
theorem met_mem (tl : List Cl) (l : List Side) (r i : Int) : i ∈ getL (metC tl l) r ↔ ∃ k : Nat,i = k ∧ ∃ x,l[k]? = some x ∧ 0 < hits tl x r:=by
 rw [getL_met,List.mem_flatMap]
 constructor
 ·rintro ⟨⟨x,k⟩,hp,hi⟩
  obtain ⟨h1,rfl⟩:=List.mem_replicate.1 hi
  refine ⟨k,I,x,?_,Nat.pos_of_ne_zero h1⟩
  simpa using List.mem_zipIdx_iff_getElem?.1 hp
 ·rintro ⟨k,rfl,x,hx,hh⟩
  exact ⟨(x,k),List.mem_zipIdx_iff_getElem?.2 (by simpa using hx),List.mem_replicate.2 ⟨Nat.ne_of_gt hh,I⟩⟩
theorem getL_mem : ∀ {ml : List (Int × List Int)},(ml.map Prod.fst).Nodup → ∀ p ∈ ml,getL ml p.1 = p.2
 | [],_,p,hp=>by simp at hp
 | (a,z) :: r,h,p,hp=>by
  simp only [List.map_cons,List.nodup_cons] at h
  rcases List.mem_cons.1 hp with rfl | hp
  ·simp [getL]
  ·simp only [getL]
   rw [if_neg fun e=>h.1 (List.mem_map.2 ⟨p,hp,e⟩)]
   exact getL_mem h.2 p hp
theorem getL_some : ∀ {ml : List (Int × List Int)} {k : Int},getL ml k ≠ [] → ∃ p ∈ ml,p.1 = k ∧ p.2 = getL ml k
 | [],_,h=>by simp [getL] at h
 | (a,z) :: r,k,h=>by
  simp only [getL] at h ⊢
  split
  ·rename_i e
   exact ⟨(a,z),by simp,e.symm,I⟩
  ·rename_i e
   rw [if_neg e] at h
   obtain ⟨p,hp,h1,h2⟩:=getL_some h
   exact ⟨p,by simp [hp],h1,h2⟩
theorem addL_ne : ∀ {ml : List (Int × List Int)} {k x : Int},(∀ p ∈ ml,p.2 ≠ []) → ∀ p ∈ addL ml k x,p.2 ≠ []
 | [],_,_,_,p,hp=>by simp [addL] at hp; subst hp; simp
 | (a,l) :: r,k,x,h,p,hp=>by
  unfold addL at hp
  split at hp
  ·rcases List.mem_cons.1 hp with rfl | hp
   ·simp
   ·exact h p (by simp [hp])
  ·rcases List.mem_cons.1 hp with rfl | hp
   ·exact h _ (by simp)
   ·exact addL_ne (fun q hq=>h q (by simp [hq])) p hp
theorem met_ne (tl : List Cl) (l : List Side) : ∀ p ∈ metC tl l,p.2 ≠ []:=by
 have h1 : ∀ (i : Int) (q : List Side) (ml : List (Int × List Int)),(∀ p ∈ ml,p.2 ≠ []) → ∀ p ∈ q.foldl (stepL i) ml,p.2 ≠ []:=by
  intro i q
  induction q with
  | nil=>intro ml h; exact h
  | cons r t ih=>intro ml h; exact ih _ (addL_ne h)
 have h2 : ∀ (q : List (Side × Nat)) (ml : List (Int × List Int)),(∀ p ∈ ml,p.2 ≠ []) → ∀ p ∈ q.foldl (fun ml p=>(sidesOf tl p.1).foldl (stepL p.2) ml) ml,p.2 ≠ []:=by
  intro q
  induction q with
  | nil=>intro ml h; exact h
  | cons x t ih=>intro ml h; exact ih _ (h1 _ _ _ h)
 exact h2 _ _ (by simp)
theorem met_none (tl : List Cl) (l : List Side) : (metC tl l).any (fun p=>decide ((p.2.length : Int) ≠ 2)) = false ↔ ∀ r,cntR tl l r = 0 ∨ cntR tl l r = 2:=by
 rw [List.any_eq_false]
 constructor
 ·intro h r
  rw [← met_len]
  by_cases hne : getL (metC tl l) r = []
  ·left; rw [hne]; rfl
  ·right
   obtain ⟨p,hp,_,h2⟩:=getL_some hne
   have:=h p hp
   rw [h2] at this
   simp at this
   omega
 ·intro h p hp
  have h1:=getL_mem (metC_nodup tl l) p hp
  have h2:=h p.1
  rw [← met_len,h1] at h2
  have h3:=List.length_pos_iff.2 (met_ne tl l p hp)
  simp
  omega
theorem met_in (tl : List Cl) (l : List Side) : ∀ p ∈ metC tl l,∀ x ∈ p.2,0 ≤ x ∧ x < (l.length : Int):=fun p hp x hx=>by
 rw [← getL_mem (metC_nodup tl l) p hp] at hx
 obtain ⟨k,rfl,y,hy,_⟩:=(met_mem tl l p.1 x).1 hx
 have:=(List.getElem?_eq_some_iff.1 hy).1
 omega
theorem seen_all {ml : List (Int × List Int)} {n : Nat} (h2 : ∀ p ∈ ml,p.2.length = 2) (hb : ∀ p ∈ ml,∀ x ∈ p.2,0 ≤ x ∧ x < (n : Int)) (h0 : 0 < n) : (seenC (joinC ml)).length = n ↔ ∀ a : Nat,a < n → Cn (linked ml) 0 a:=by
 have hmem : ∀ x : Int,x ∈ seenC (joinC ml) ↔ Rch (adjJ (joinC ml)) 0 x:=fun x=>mem_dfs (cnt:=cntK (joinC ml)) (fun v v' h=>cntK_mono h) (cntK_strict _) (Nat.lt_succ_of_le (List.length_filter_le _ _)) (by simp [adjJ]) x
 have hnd : (seenC (joinC ml)).Nodup:=dfs_nodup _ _ _ _ (by simp)
 have hin : ∀ x ∈ seenC (joinC ml),0 ≤ x ∧ x < (n : Int):=fun x hx=>by
  have hr:=(rch_cn h2 0 x).1 ((hmem x).1 hx)
  have : ∀ a b,Cn (linked ml) a b → (0 ≤ a ∧ a < (n : Int)) → (0 ≤ b ∧ b < (n : Int)):=by
   intro a b h
   induction h with
   | refl _=>exact fun h=>h
   | step e _ ih =>
    intro _
    rcases e with e | e
    ·exact ih (linked_in hb e).2
    ·exact ih (linked_in hb e).1
  exact this 0 x hr oM
 generalize seenC (joinC ml) = seen at *
 constructor
 ·intro hl a ha
  refine Classical.byContradiction fun hne=>?_
  have hna : (a : Int) ∉ seen:=fun h=>hne ((rch_cn h2 0 a).1 ((hmem a).1 h))
  have:=nodup_leI (l:=(a : Int) :: seen) (n:=n) (List.nodup_cons.2 ⟨hna,hnd⟩) fun x hx=>by
   rcases List.mem_cons.1 hx with rfl | hx
   ·omega
   ·exact hin x hx
  simp at this
  omega
 ·intro hall
  refine Nat.le_antisymm (nodup_leI hnd hin) ?_
  have h3:=length_le_of_nodup (m:=List.range n) (l:=seen.map Int.toNat) List.nodup_range (nodup_nat hnd fun x hx=>(hin x hx).1) fun i hi=>by
   have hi:=List.mem_range.1 hi
   exact List.mem_map.2 ⟨(i : Int),(hmem i).2 ((rch_cn h2 0 i).2 (hall i hi)),by simp⟩
  simpa using h3
theorem Cn.map {E E' : Int → Int → Prop} {f : Int → Int} (h : ∀ a b,E a b → Cn E' (f a) (f b)) {a b : Int} (hc : Cn E a b) : Cn E' (f a) (f b):=by
 induction hc with
 | refl _=>exact .refl _
 | step e _ ih =>
  rcases e with e | e
  ·exact (h _ _ e).trans ih
  ·exact (h _ _ e).symm.trans ih
theorem around_iff {tl : List Cl} {c : Cl} (h0 : 0 < c.sides.length) (hnd : (c.sides.map Side.cell).Nodup) :
  aroundC tl c = 0 ↔ (∀ r,sumR tl c.sides r = 0) ∧ (∀ r,cntR tl c.sides r = 0 ∨ cntR tl c.sides r = 2) ∧ ∀ x ∈ c.sides,∀ y ∈ c.sides,Cn (share tl c.sides) x.cell y.cell:=by
 unfold aroundC
 generalize c.sides = l at *
 by_cases hs : (sumsC tl l).any (fun p=>decide (p.2 ≠ 0)) = false
 ·rw [if_neg (by rw [hs]; simp)]
  by_cases hm : (metC tl l).any (fun p=>decide ((p.2.length : Int) ≠ 2)) = false
  ·rw [if_neg (by rw [hm]; simp)]
   have h2 : ∀ p ∈ metC tl l,p.2.length = 2:=fun p hp=>by
    have:=List.any_eq_false.1 hm p hp
    simp at this
    omega
   have hsa:=seen_all h2 (met_in tl l) h0
   have hinj : ∀ {i j : Nat} {x y : Side},l[i]? = some x → l[j]? = some y → x.cell = y.cell → i = j:=fun {i j x y} hi hj e=>by
    obtain ⟨i1,e1⟩:=List.getElem?_eq_some_iff.1 hi
    obtain ⟨i2,e2⟩:=List.getElem?_eq_some_iff.1 hj
    have key : ∀ {a b : Nat} (ha : a < l.length) (hb : b < l.length),a < b → l[a].cell ≠ l[b].cell:=fun {a b} ha hb h=>by
     have:=List.pairwise_iff_getElem.1 hnd a b (by simpa using ha) (by simpa using hb) h
     simpa using this
    rcases Nat.lt_trichotomy i j with h | h | h
    ·exact absurd (by rw [e1,e2]; exact e) (key i1 i2 h)
    ·exact h
    ·exact absurd (by rw [e1,e2]; exact e.symm) (key i2 i1 h)
   have hconn : (∀ a : Nat,a < l.length → Cn (linked (metC tl l)) 0 a) ↔ ∀ x ∈ l,∀ y ∈ l,Cn (share tl l) x.cell y.cell:=by
    constructor
    ·intro hall x hx y hy
     obtain ⟨i,hi,rfl⟩:=List.getElem_of_mem hx
     obtain ⟨j,hj,rfl⟩:=List.getElem_of_mem hy
     have hc:=(hall i hi).symm.trans (hall j hj)
     have:=hc.map (f:=fun a=>(l.getD a.toNat ⟨0,0⟩).cell) (E':=share tl l) fun a b hl=>by
      obtain ⟨p,hp,h3,h4⟩:=hl
      rw [← getL_mem (metC_nodup tl l) p hp] at h3 h4
      obtain ⟨k,rfl,x,hx,hh⟩:=(met_mem tl l p.1 a).1 (List.mem_of_head? h3)
      obtain ⟨m,rfl,y,hy,hh2⟩:=(met_mem tl l p.1 b).1 h4
      refine .one ⟨x,List.mem_of_getElem? hx,y,List.mem_of_getElem? hy,?_,?_,p.1,hh,hh2⟩
      ·simp [List.getD_eq_getElem?_getD,hx]
      ·simp [List.getD_eq_getElem?_getD,hy]
     simpa [List.getD_eq_getElem?_getD,hi,hj] using this
    ·intro hall
     have key : ∀ a b,Cn (share tl l) a b → ∀ (i : Nat) (x : Side),l[i]? = some x → x.cell = a → ∀ (j : Nat) (y : Side),l[j]? = some y → y.cell = b → Cn (linked (metC tl l)) (i : Int) (j : Int):=by
      have one : ∀ {a b : Int},share tl l a b → ∀ (i : Nat) (x : Side),l[i]? = some x → x.cell = a → ∃ (j : Nat) (y : Side),l[j]? = some y ∧ y.cell = b ∧ Cn (linked (metC tl l)) (i : Int) (j : Int):=by
       rintro a b ⟨x',hx',y,hy,rfl,rfl,r,h3,h4⟩ i x hi he
       obtain ⟨i',hi',rfl⟩:=List.getElem_of_mem hx'
       obtain ⟨j,hj,rfl⟩:=List.getElem_of_mem hy
       have hii:=hinj hi (gE hi') he
       subst hii
       refine ⟨j,l[j],gE hj,I,?_⟩
       have m1:=(met_mem tl l r i).2 ⟨i,rfl,l[i],gE hi',h3⟩
       have m2:=(met_mem tl l r j).2 ⟨j,rfl,l[j],gE hj,h4⟩
       obtain ⟨p,hp,_,hp2⟩:=getL_some (ml:=metC tl l) (k:=r) fun e=>by rw [e] at m1; simp at m1
       rw [← hp2] at m1 m2
       cases hh : p.2 with
       | nil=>rw [hh] at m1; simp at m1
       | cons u q =>
        have hu : ∀ v ∈ p.2,linked (metC tl l) u v:=fun v hv=>⟨p,hp,by rw [hh]; rfl,hv⟩
        exact (Cn.one (hu _ m1)).symm.trans (Cn.one (hu _ m2))
      intro a b hc
      induction hc with
      | refl a =>
       intro i x hi he j y hj he2
       have:=hinj hi hj (he.trans he2.symm)
       subst this
       exact .refl _
      | step e _ ih =>
       intro i x hi he j y hj he2
       have e' : share tl l _ _:=e.elim (fun e=>e) fun ⟨x,hx,y,hy,h1,h2,r,h3,h4⟩=>⟨y,hy,x,hx,h2,h1,r,h4,h3⟩
       obtain ⟨k,z,hk,hz,hc⟩:=one e' i x hi he
       exact hc.trans (ih k z hk hz j y hj he2)
     intro a ha
     exact key _ _ (hall _ (gM h0) _ (gM ha)) 0 _ (gE h0) I a _ (gE ha) I
   rw [← hconn,← hsa]
   constructor
   ·intro h
    refine ⟨(sums_none tl l).1 hs,(met_none tl l).1 hm,?_⟩
    refine Decidable.of_not_not fun hne=>?_
    rw [if_pos oM] at h
    exact absurd h dC
   ·rintro ⟨_,_,h⟩
    rw [if_neg oM]
  ·have hm' : (metC tl l).any (fun p=>decide ((p.2.length : Int) ≠ 2)) = true:=by simpa using hm
   rw [if_pos hm']
   exact ⟨fun h=>absurd h dC,fun h=>absurd ((met_none tl l).2 h.2.1) hm⟩
 ·have hs' : (sumsC tl l).any (fun p=>decide (p.2 ≠ 0)) = true:=by simpa using hs
  rw [if_pos hs']
  exact ⟨fun h=>absurd h dC,fun h=>absurd ((sums_none tl l).2 h.1) hs⟩
structure Fm (tl : List Cl) (c : Cl) : Prop where
 dim : 0 ≤ c.dim ∧ c.dim ≤ 8
 cnt : cntBad c = false
 found : ∀ x ∈ c.sides,∃ d,findT tl x.cell = some d ∧ d.dim = c.dim - 1
 asc : c.sides.Pairwise fun a b=>a.cell < b.cell
 sg : ∀ x ∈ c.sides,x.sign = 1 ∨ x.sign = -1
 one : c.dim = 1 → sumS c.sides = 0
theorem Fm.ok {tl : List Cl} {c : Cl} (h : Fm tl c) : formC tl c = 0:=form_of h.dim h.cnt h.found h.asc h.sg h.one
theorem asc_of {l : List Side} (hs : l.Pairwise fun a b=>a.cell ≤ b.cell) (hd : ∀ i x y,l[i]? = some x → l[i + 1]? = some y → x.cell ≠ y.cell) : l.Pairwise fun a b=>a.cell < b.cell:=by
 induction l with
 | nil=>exact List.Pairwise.nil
 | cons a r ih =>
  obtain ⟨h1,h2⟩:=List.pairwise_cons.1 hs
  have hr:=ih h2 fun i x y hx hy=>hd (i + 1) x y (by simpa using hx) (by simpa using hy)
  refine List.pairwise_cons.2 ⟨fun b hb=>?_,hr⟩
  cases r with
  | nil=>simp at hb
  | cons z q =>
   have hz : a.cell < z.cell:=by
    have:=h1 z (by simp)
    have:=hd 0 a z rfl rfl
    omega
   rcases List.mem_cons.1 hb with rfl | hb
   ·exact hz
   ·have:=(List.pairwise_cons.1 hr).1 b hb
    omega
theorem fm_of {tl : List Cl} {c : Cl} (h : formC tl c = 0) (hs : c.sides.Pairwise fun a b=>a.cell ≤ b.cell) : Fm tl c:=by
 unfold formC at h
 split at h
 ·cases h
 ·rename_i h1
  split at h
  ·cases h
  ·rename_i h2
   split at h
   ·cases h
   ·rename_i h3
    split at h
    ·cases h
    ·rename_i h4
     split at h
     ·cases h
     ·rename_i h5
      have hbad : ∀ i x,c.sides[i]? = some x → badSide tl c i x = false:=fun i x hx=>by
       have hi:=(List.getElem?_eq_some_iff.1 hx).1
       have:=List.any_eq_false.1 ((Bool.not_eq_true _).mp h3) i (List.mem_range.2 hi)
       unfold badAt at this
       rw [hx] at this
       simpa using this
      refine ⟨?_,by simpa using h2,fun x hx=>?_,asc_of hs fun i x y hx hy e=>?_,fun x hx=>?_,fun hd=>?_⟩
      ·simp [dimBad] at h1; omega
      ·obtain ⟨i,hi,rfl⟩:=List.getElem_of_mem hx
       have:=hbad i _ (gE hi)
       unfold badSide at this
       simp only [Bool.or_eq_false_iff,Bool.not_eq_false',decide_eq_false_iff_not,ne_eq,Decidable.not_not] at this
       obtain ⟨⟨g1,g2⟩,_⟩:=this
       obtain ⟨d,hd⟩:=Option.isSome_iff_exists.1 g1
       rw [hd] at g2
       exact ⟨d,hd,g2⟩
      ·have:=hbad (i + 1) y hy
       unfold badSide at this
       rw [show i + 1 - 1 = i by omega,hx] at this
       simp [e] at this
      ·have:=List.any_eq_false.1 ((Bool.not_eq_true _).mp h4) x hx
       simp [signBad] at this
       by_cases h6 : x.sign = 1
       ·exact .inl h6
       ·exact .inr (this h6)
      ·simpa [hd] using h5
structure Rt (l : List Cl) : Prop where
 few : l.length ≤ 4000
 asc : l.Pairwise fun a b=>a.id < b.id
 pos : ∀ x ∈ l,0 < x.id
 form : ∀ x ∈ l,Fm l x
 around : ∀ x ∈ l,x.dim > 1 → aroundC l x = 0
theorem Rt.canon {l : List Cl} (h : Rt l) : canonC l = l:=by
 unfold canonC
 rw [(eq_sortBy (key:=Cl.id) (h.asc.imp fun h=>by omega) (Stab.refl l)).symm]
 have : ∀ c ∈ l,normC c = c:=fun c hc=>by
  unfold normC
  rw [(eq_sortBy (key:=Side.cell) ((h.form c hc).asc.imp fun h=>by omega) (Stab.refl c.sides)).symm]
 rw [List.map_congr_left this]
 simp
theorem Rt.check {l : List Cl} (h : Rt l) : checkC l = (0,0):=by
 refine check_ok h.few ?_ ?_ ?_ ?_ <;> rw [h.canon]
 ·exact h.pos
 ·exact h.asc
 ·exact fun x hx=>(h.form x hx).ok
 ·exact h.around
theorem Rt.find {l : List Cl} (h : Rt l) {c : Cl} (hc : c ∈ l) : findT l c.id = some c:=by
 refine find_mem ?_ hc
 rw [List.Nodup,List.pairwise_map]
 exact h.asc.imp fun h=>by omega
theorem chk2_none_form {tl : List Cl} : ∀ {l : List Cl},chk2 tl l = none → ∀ x ∈ l,x.dim > 1 → aroundC tl x = 0
 | [],_,x,hx,_=>by simp at hx
 | y :: r,h,x,hx,hd=>by
  unfold chk2 at h
  split at h
  ·cases h
  ·rename_i hn
   rcases List.mem_cons.1 hx with rfl | hx
   ·exact Decidable.of_not_not fun h=>hn ⟨hd,h⟩
   ·exact chk2_none_form h x hx hd
theorem chk2_some {tl : List Cl} : ∀ {l : List Cl} {p : Int × Int},chk2 tl l = some p → p.2 ≠ 0
 | [],_,h=>by cases h
 | y :: r,p,h=>by
  unfold chk2 at h
  split at h
  ·rename_i hn; cases h; exact hn.2
  ·exact chk2_some h
theorem canon_sides (l : List Cl) : ∀ c ∈ canonC l,c.sides.Pairwise fun a b=>a.cell ≤ b.cell:=fun c hc=>by
 obtain ⟨d,_,rfl⟩:=List.mem_map.1 hc
 exact sortBy_srt d.sides
theorem rt_of {l : List Cl} (h : (checkC l).2 = 0) : Rt (canonC l):=by
 have h1:=check_ne h
 obtain ⟨h2,h3,h4⟩:=chk1_none_form h1
 have ht:=tabC_strict h2
 have h5 : l.length ≤ 4000:=check_len h
 refine ⟨by rw [canonC_length]; exact h5,h2,h3,fun x hx=>fm_of (by rw [← ht]; exact h4 x hx) (canon_sides l x hx),?_⟩
 have h6 : chk2 (tabC l) (canonC l) = none:=by
  unfold checkC at h
  rw [if_neg oM,h1] at h
  cases hc : chk2 (tabC l) (canonC l) with
  | none=>rfl
  | some p =>
   rw [hc] at h
   exact absurd h (chk2_some hc)
 rw [ht] at h6
 exact chk2_none_form h6
theorem perm_sumI {l m : List Int} (h : l.Perm m) : l.sum = m.sum:=by
 induction h with
 | nil=>rfl
 | cons x _ ih=>simp [ih]
 | swap x y l=>simp; omega
 | trans _ _ ih1 ih2=>exact ih1.trans ih2
theorem perm_sumN {l m : List Nat} (h : l.Perm m) : l.sum = m.sum:=by
 induction h with
 | nil=>rfl
 | cons x _ ih=>simp [ih]
 | swap x y l=>simp; omega
 | trans _ _ ih1 ih2=>exact ih1.trans ih2
theorem sortBy_perm {α : Type} {key : α → Int} (l : List α) : (sortBy key l).Perm l:=by
 have hi : ∀ (x : α) (l : List α),(ins key x l).Perm (x :: l):=by
  intro x l
  induction l with
  | nil=>exact .refl _
  | cons y r ih =>
   unfold ins
   split
   ·exact .refl _
   ·exact (ih.cons y).trans (.swap x y r)
 induction l with
 | nil=>exact .refl _
 | cons x r ih=>exact (hi x _).trans (ih.cons x)
def inner (tl : List Cl) (x : Side) (r : Int) : Int:=((sidesOf tl x).map fun q=>if q.cell = r then x.sign * q.sign else 0).sum
theorem sumR_inner (tl : List Cl) (l : List Side) (r : Int) : sumR tl l r = (l.map fun x=>inner tl x r).sum:=by
 unfold sumR
 induction l with
 | nil=>rfl
 | cons x q ih=>simp only [List.flatMap_cons,List.sum_append,List.map_cons,List.sum_cons,ih]; rfl
theorem sumR_perm {tl : List Cl} {l m : List Side} (h : l.Perm m) (r : Int) : sumR tl l r = sumR tl m r:=by
 rw [sumR_inner,sumR_inner]
 exact perm_sumI (h.map _)
theorem cntR_perm {tl : List Cl} {l m : List Side} (h : l.Perm m) (r : Int) : cntR tl l r = cntR tl m r:=perm_sumN (h.map _)
def sgn (b : Bool) : Int:=if b then -1 else 1
theorem negIf_sgn (b : Bool) {a : Int} (h : a = 1 ∨ a = -1) : negIf b a = sgn b * a ∧ (negIf b a = 1 ∨ negIf b a = -1):=by
 rcases h with rfl | rfl <;> cases b <;> exact ⟨by decide,by decide⟩
theorem sum_const {α : Type} {l : List α} {f g : α → Int} {K : Int} (h : ∀ x ∈ l,f x = K * g x) : (l.map f).sum = K * (l.map g).sum:=by
 induction l with
 | nil=>simp
 | cons x r ih =>
  simp only [List.map_cons,List.sum_cons]
  rw [h x (by simp),ih fun y hy=>h y (by simp [hy]),Int.mul_add]
structure Nm (l : List Cl) (k : Int) : Prop where
 inj : ∀ a ∈ l,∀ b ∈ l,mixC a.id k = mixC b.id k → a = b
 pos : ∀ a ∈ l,0 < mixC a.id k
section
variable {l : List Cl} (h : Rt l) {k : Int} (hn : Nm l k) (t : Int)
include h hn
omit hn in
theorem ren_sub (c : Cl) (hc : c ∈ l) {x : Side} (hx : x ∈ c.sides) : ∃ d ∈ l,d.id = x.cell ∧ findT l x.cell = some d ∧ d.dim = c.dim - 1:=by
 obtain ⟨d,hd,hdd⟩:=(h.form c hc).found x hx
 obtain ⟨h1,h2⟩:=findT_mem hd
 exact ⟨d,h1,h2,hd,hdd⟩
theorem ren_ids : ((l.map (renCell k t)).map Cl.id).Nodup:=by
 rw [List.map_map,List.Nodup,List.pairwise_map]
 refine List.Pairwise.imp_of_mem ?_ h.asc
 intro a b ha hb hlt e
 have:=hn.inj a ha b hb e
 subst this
 omega
theorem ren_nodup : ((canonC (l.map (renCell k t))).map Cl.id).Nodup:=by
 have h1:=ren_ids h hn t
 have h2 : ((canonC (l.map (renCell k t))).map Cl.id).Perm ((l.map (renCell k t)).map Cl.id):=by
  rw [canonC_ids]
  exact (sortBy_perm _).map _
 exact h2.symm.nodup h1
omit h hn in
theorem ren_mem {c : Cl} (hc : c ∈ l) : normC (renCell k t c) ∈ canonC (l.map (renCell k t)) :=
 List.mem_map.2 ⟨_,(sortBy_mem _ _).2 (List.mem_map.2 ⟨c,hc,rfl⟩),rfl⟩
omit h hn in
theorem mem_ren {c' : Cl} (hc : c' ∈ canonC (l.map (renCell k t))) : ∃ c ∈ l,c' = normC (renCell k t c):=by
 obtain ⟨d,hd,rfl⟩:=List.mem_map.1 hc
 obtain ⟨c,hc',rfl⟩:=List.mem_map.1 ((sortBy_mem _ _).1 hd)
 exact ⟨c,hc',I⟩
theorem ren_find {c : Cl} (hc : c ∈ l) : findT (canonC (l.map (renCell k t))) (mixC c.id k) = some (normC (renCell k t c)) :=
 find_mem (x:=normC (renCell k t c)) (ren_nodup h hn t) (ren_mem t hc)
omit h hn in
theorem ren_perm (c : Cl) : (normC (renCell k t c)).sides.Perm (c.sides.map (renSide k t c)):=sortBy_perm _
omit hn in
theorem ren_sign {c : Cl} (hc : c ∈ l) {x : Side} (hx : x ∈ c.sides) : (renSide k t c x).sign = sgn (turn2 t c x.cell) * (sgn (turn1 t c) * x.sign) ∧ ((renSide k t c x).sign = 1 ∨ (renSide k t c x).sign = -1):=by
 have h1:=negIf_sgn (turn1 t c) ((h.form c hc).sg x hx)
 have h2:=negIf_sgn (turn2 t c x.cell) h1.2
 exact ⟨by rw [← h1.1]; exact h2.1,h2.2⟩
theorem ren_form {c : Cl} (hc : c ∈ l) : Fm (canonC (l.map (renCell k t))) (normC (renCell k t c)):=by
 have hf:=h.form c hc
 have hlen : (normC (renCell k t c)).sides.length = c.sides.length:=by rw [(ren_perm t c).length_eq,List.length_map]
 have hmem : ∀ x',x' ∈ (normC (renCell k t c)).sides ↔ ∃ x ∈ c.sides,renSide k t c x = x':=fun x'=>by rw [(ren_perm t c).mem_iff,List.mem_map]
 refine ⟨hf.dim,?_,fun x' hx'=>?_,?_,fun x' hx'=>?_,fun hd=>?_⟩
 ·have:=hf.cnt
  unfold cntBad at this ⊢
  rw [hlen]
  exact this
 ·obtain ⟨x,hx,rfl⟩:=(hmem x').1 hx'
  obtain ⟨d,hd,hid,_,hdd⟩:=ren_sub h c hc hx
  have:=ren_find h hn t hd
  rw [hid] at this
  exact ⟨_,this,hdd⟩
 ·have h1 : (normC (renCell k t c)).sides.Pairwise fun a b=>a.cell ≤ b.cell:=sortBy_srt _
  have h2 : ((normC (renCell k t c)).sides.map Side.cell).Nodup:=by
   refine ((ren_perm t c).map Side.cell).symm.nodup ?_
   rw [List.map_map,List.Nodup,List.pairwise_map]
   refine List.Pairwise.imp_of_mem ?_ hf.asc
   intro a b ha hb hlt e
   obtain ⟨d,hd,hid,_⟩:=ren_sub h c hc ha
   obtain ⟨d',hd',hid',_⟩:=ren_sub h c hc hb
   have e : mixC a.cell k = mixC b.cell k:=e
   rw [← hid,← hid'] at e
   have:=hn.inj d hd d' hd' e
   subst this
   omega
  rw [List.Nodup,List.pairwise_map] at h2
  exact (h1.and h2).imp fun ⟨h3,h4⟩=>by omega
 ·obtain ⟨x,hx,rfl⟩:=(hmem x').1 hx'
  exact (ren_sign h t hc hx).2
 ·have hd : c.dim = 1:=hd
  have h1:=hf.one hd
  unfold sumS at h1 ⊢
  rw [perm_sumI ((ren_perm t c).map Side.sign),List.map_map]
  rw [sum_const (g:=Side.sign) (K:=sgn (turn1 t c)) fun x hx=>?_,h1,Int.mul_zero]
  have h2:=(ren_sign (k:=k) h t hc hx).1
  have h3 : turn2 t c x.cell = false:=by unfold turn2; simp [hd]
  rw [h3] at h2
  show (renSide k t c x).sign = _
  rw [h2]
  unfold sgn
  simp
theorem ren_hits {c : Cl} (hc : c ∈ l) {x : Side} (hx : x ∈ c.sides) {e : Cl} (he : e ∈ l) : hits (canonC (l.map (renCell k t))) (renSide k t c x) (mixC e.id k) = hits l x e.id:=by
 obtain ⟨d,hd,hid,hfd,_⟩:=ren_sub h c hc hx
 unfold hits sidesOf
 rw [hfd,show (renSide k t c x).cell = mixC d.id k by rw [hid]; rfl,ren_find h hn t hd]
 show ((normC (renCell k t d)).sides.filter _).length = _
 rw [((ren_perm t d).filter _).length_eq,List.filter_map,List.length_map]
 congr 1
 refine List.filter_congr fun q hq=>?_
 obtain ⟨u,hu,hui,_⟩:=ren_sub h d hd hq
 show decide (mixC q.cell k = mixC e.id k) = decide (q.cell = e.id)
 rw [decide_eq_decide,← hui]
 by_cases hue : u = e
 ·subst hue; simp
 ·have h1 : ¬ mixC u.id k = mixC e.id k:=fun e'=>hue (hn.inj u hu e he e')
  have h2 : ¬ u.id = e.id:=fun e'=>hue (by have a1:=h.find hu; have a2:=h.find he; rw [e',a2] at a1; injection a1 with a1; exact a1.symm)
  simp [h1,h2]
theorem ren_hits_no {c : Cl} (hc : c ∈ l) {x : Side} (hx : x ∈ c.sides) {r : Int} (hr : ∀ e ∈ l,mixC e.id k ≠ r) : hits (canonC (l.map (renCell k t))) (renSide k t c x) r = 0:=by
 obtain ⟨d,hd,hid,hfd,_⟩:=ren_sub h c hc hx
 unfold hits sidesOf
 rw [show (renSide k t c x).cell = mixC d.id k by rw [hid]; rfl,ren_find h hn t hd]
 show ((normC (renCell k t d)).sides.filter _).length = _
 rw [((ren_perm t d).filter _).length_eq,List.length_eq_zero_iff,List.filter_eq_nil_iff]
 intro q' hq'
 obtain ⟨q,hq,rfl⟩:=List.mem_map.1 hq'
 obtain ⟨u,hu,hui,_⟩:=ren_sub h d hd hq
 have:=hr u hu
 rw [hui] at this
 show ¬ decide (mixC q.cell k = r) = true
 simpa using this
theorem ren_inner {c : Cl} (hc : c ∈ l) (hd1 : c.dim > 1) {x : Side} (hx : x ∈ c.sides) {e : Cl} (he : e ∈ l) :
  inner (canonC (l.map (renCell k t))) (renSide k t c x) (mixC e.id k) = sgn (turn1 t c) * sgn ((decide (t > 1) && decide (c.dim - 1 > 1)) && decide (e.id.tmod t = 1)) * inner l x e.id:=by
 obtain ⟨d,hd,hid,hfd,hdd⟩:=ren_sub h c hc hx
 have hsx:=(ren_sign (k:=k) h t hc hx).1
 unfold inner sidesOf
 rw [hfd,show (renSide k t c x).cell = mixC d.id k by rw [hid]; rfl,ren_find h hn t hd]
 show ((normC (renCell k t d)).sides.map _).sum = _
 rw [perm_sumI ((ren_perm t d).map _),List.map_map]
 show _ = _ * (d.sides.map _).sum
 refine sum_const fun q hq=>?_
 obtain ⟨u,hu,hui,_⟩:=ren_sub h d hd hq
 have hsq:=(ren_sign (k:=k) h t hd hq).1
 simp only [Function.comp_def]
 show (if mixC q.cell k = mixC e.id k then (renSide k t c x).sign * (renSide k t d q).sign else 0) = _
 by_cases hue : u = e
 ·subst hue
  rw [hui,if_pos rfl,if_pos rfl,hsx,hsq]
  have h1 : turn2 t c x.cell = turn1 t d:=by
   unfold turn2 turn1
   rw [hid]
   simp [hd1]
  have h2 : turn2 t d q.cell = ((decide (t > 1) && decide (c.dim - 1 > 1)) && decide (q.cell.tmod t = 1)):=by
   unfold turn2
   rw [hdd]
  rw [h1,h2]
  generalize turn1 t d = b1
  generalize turn1 t c = b2
  generalize ((decide (t > 1) && decide (c.dim - 1 > 1)) && decide (q.cell.tmod t = 1)) = b3
  cases b1 <;> cases b2 <;> cases b3 <;> simp [sgn,Int.neg_mul,Int.mul_neg]
 ·have h1 : ¬ mixC q.cell k = mixC e.id k:=fun e'=>hue (hn.inj u hu e he (by rw [hui]; exact e'))
  have h2 : ¬ q.cell = e.id:=fun e'=>hue (by have a1:=h.find hu; have a2:=h.find he; rw [hui,e',a2] at a1; injection a1 with a1; exact a1.symm)
  rw [if_neg h1,if_neg h2,Int.mul_zero]
omit h hn in
theorem inner_no {tl : List Cl} {x : Side} {r : Int} (h0 : hits tl x r = 0) : inner tl x r = 0:=by
 unfold hits at h0
 rw [List.length_eq_zero_iff,List.filter_eq_nil_iff] at h0
 unfold inner
 have : ((sidesOf tl x).map fun q=>if q.cell = r then x.sign * q.sign else 0) = (sidesOf tl x).map fun _=>(0 : Int):=List.map_congr_left fun q hq=>if_neg (by simpa using h0 q hq)
 rw [this]
 generalize sidesOf tl x = m
 induction m with
 | nil=>rfl
 | cons a b ih=>simpa using ih
theorem ren_around {c : Cl} (hc : c ∈ l) (hd1 : c.dim > 1) : aroundC (canonC (l.map (renCell k t))) (normC (renCell k t c)) = 0:=by
 have hf:=h.form c hc
 have hf':=ren_form h hn t hc
 have hn0 : 0 < c.sides.length:=by
  have:=hf.cnt
  simp [cntBad] at this
  have:=this.2 hd1
  omega
 have hlen : (normC (renCell k t c)).sides.length = c.sides.length:=by rw [(ren_perm t c).length_eq,List.length_map]
 have nd : ∀ {c : Cl},(c.sides.Pairwise fun a b=>a.cell < b.cell) → (c.sides.map Side.cell).Nodup:=fun h=>by
  rw [List.Nodup,List.pairwise_map]
  exact h.imp fun h=>by omega
 obtain ⟨a1,a2,a3⟩:=(around_iff hn0 (nd hf.asc)).1 (h.around c hc hd1)
 refine (around_iff (by rw [hlen]; exact hn0) (nd hf'.asc)).2 ⟨fun r=>?_,fun r=>?_,fun x' hx' y' hy'=>?_⟩
 ·rw [sumR_perm (ren_perm t c),sumR_inner,List.map_map]
  simp only [Function.comp_def]
  by_cases hr : ∃ e ∈ l,mixC e.id k = r
  ·obtain ⟨e,he,rfl⟩:=hr
   have h1:=a1 e.id
   rw [sumR_inner] at h1
   rw [sum_const (g:=fun x=>inner l x e.id) (K:=sgn (turn1 t c) * sgn ((decide (t > 1) && decide (c.dim - 1 > 1)) && decide (e.id.tmod t = 1))) fun x hx=>ren_inner h hn t hc hd1 hx he,h1,Int.mul_zero]
  ·have hr : ∀ e ∈ l,mixC e.id k ≠ r:=fun e he e'=>hr ⟨e,he,e'⟩
   rw [sum_const (g:=fun _=>(0 : Int)) (K:=0) fun x hx=>by
    rw [inner_no (ren_hits_no h hn t hc hx hr)]
    rfl,Int.zero_mul]
 ·rw [cntR_perm (ren_perm t c)]
  unfold cntR
  rw [List.map_map]
  simp only [Function.comp_def]
  by_cases hr : ∃ e ∈ l,mixC e.id k = r
  ·obtain ⟨e,he,rfl⟩:=hr
   have h1:=a2 e.id
   unfold cntR at h1
   rw [List.map_congr_left (g:=fun x=>hits l x e.id) fun x hx=>ren_hits h hn t hc hx he]
   exact h1
  ·have hr : ∀ e ∈ l,mixC e.id k ≠ r:=fun e he e'=>hr ⟨e,he,e'⟩
   left
   rw [List.map_congr_left (g:=fun _=>0) fun x hx=>ren_hits_no h hn t hc hx hr]
   generalize c.sides = m
   induction m with
   | nil=>rfl
   | cons a b ih=>simpa using ih
 ·have hmem : ∀ x',x' ∈ (normC (renCell k t c)).sides ↔ x' ∈ c.sides.map (renSide k t c):=fun x'=>(ren_perm t c).mem_iff
  obtain ⟨x,hx,rfl⟩:=List.mem_map.1 ((hmem x').1 hx')
  obtain ⟨y,hy,rfl⟩:=List.mem_map.1 ((hmem y').1 hy')
  have hm : ∀ x ∈ c.sides,renSide k t c x ∈ (normC (renCell k t c)).sides:=fun x hx=>(hmem _).2 (List.mem_map.2 ⟨x,hx,rfl⟩)
  refine (a3 x hx y hy).map (f:=fun a=>mixC a k) fun a b=>?_
  rintro ⟨u,hu,v,hv,rfl,rfl,r,h1,h2⟩
  obtain ⟨du,hdu,hidu,hfu,_⟩:=ren_sub h c hc hu
  have hr : ∃ e ∈ l,e.id = r:=by
   unfold hits sidesOf at h1
   rw [hfu] at h1
   obtain ⟨q,hq⟩:=List.exists_mem_of_length_pos h1
   obtain ⟨hq1,hq2⟩:=List.mem_filter.1 hq
   obtain ⟨e,he,hei,_⟩:=ren_sub h du hdu (x:=q) hq1
   exact ⟨e,he,by rw [hei]; simpa using hq2⟩
  obtain ⟨e,he,rfl⟩:=hr
  exact .one ⟨_,hm u hu,_,hm v hv,I,I,mixC e.id k,by rw [ren_hits h hn t hc hu he]; exact h1,by rw [ren_hits h hn t hc hv he]; exact h2⟩
theorem ren_right : Rt (canonC (l.map (renCell k t))):=by
 refine ⟨by rw [canonC_length,List.length_map]; exact h.few,?_,fun x' hx'=>?_,fun x' hx'=>?_,fun x' hx' hd=>?_⟩
 ·have h1:=canonC_sorted (l.map (renCell k t))
  have h2:=ren_nodup h hn t
  rw [List.pairwise_map] at h1
  rw [List.Nodup,List.pairwise_map] at h2
  exact (h1.and h2).imp fun ⟨h3,h4⟩=>by omega
 ·obtain ⟨c,hc,rfl⟩:=mem_ren t hx'
  exact hn.pos c hc
 ·obtain ⟨c,hc,rfl⟩:=mem_ren t hx'
  exact ren_form h hn t hc
 ·obtain ⟨c,hc,rfl⟩:=mem_ren t hx'
  exact ren_around h hn t hc hd
end
def Bd (l : List Cl) : Prop:=∀ c ∈ l,c.id ≤ l.length
theorem rt_simp (ls : List (List Int)) : Rt (simpC ls) ∧ Bd (simpC ls):=by
 have h1:=rt_of (l:=simpC ls) (by rw [simpC_right])
 have h2 : canonC (simpC ls) = simpC ls:=by
  unfold simpC
  cases simpAll [] ls with
  | none=>rfl
  | some all=>exact canonC_idem _
 rw [h2] at h1
 refine ⟨h1,?_⟩
 unfold simpC
 cases h : simpAll [] ls with
 | none=>intro c hc; simp at hc
 | some all =>
  obtain ⟨hg,_⟩:=simpAll_good ls [] h Good.nil (by simp)
  dsimp only
  rw [hg.cells]
  intro c hc
  obtain ⟨s,hs,rfl⟩:=List.mem_map.1 hc
  have:=(List.getElem?_eq_some_iff.1 (hg.get_lb hs)).1
  show ixC all s ≤ _
  unfold ixC
  rw [List.length_map]
  omega
theorem lbI_lt {l : List Int} {x : Int} (h : x ∈ l) : lbI l x < l.length:=by
 unfold lbI
 induction l with
 | nil=>simp at h
 | cons a r ih =>
  rw [List.filter_cons]
  rcases List.mem_cons.1 h with rfl | h
  ·have:=List.length_filter_le (fun y=>decide (y < x)) r
   simp
   omega
  ·have:=ih h
   split
   ·simp only [List.length_cons]; omega
   ·simp only [List.length_cons]; omega
theorem rt_prod (a b : List Cl) : Rt (refProdC a b) ∧ Bd (refProdC a b) ∧ (refProdC a b).length ≤ a.length * b.length:=by
 rw [prod_ref]
 unfold prodC
 split
 ·exact ⟨⟨by simp,List.Pairwise.nil,by simp,by simp,by simp⟩,fun c hc=>by simp at hc,by simp⟩
 ·rename_i hbad
  split
  ·rename_i hok
   have hlen : (canonC (prodAll a b)).length = a.length * b.length:=by
    rw [canonC_length]
    unfold prodAll
    rw [flatMap_len,canonC_length,canonC_length]
   refine ⟨rt_of hok,fun c hc=>?_,by rw [hlen]; exact lR _⟩
   rw [hlen]
   obtain ⟨h1,h2,_⟩:=prodBad_no (by simpa using hbad)
   have ta:=tabC_strict (chk1_none_form (check_ne h1)).1
   have tb:=tabC_strict (chk1_none_form (check_ne h2)).1
   obtain ⟨d,hd,rfl⟩:=List.mem_map.1 hc
   have hd:=(sortBy_mem _ _).1 hd
   unfold prodAll at hd
   rw [ta,tb] at hd
   obtain ⟨x,hx,hd⟩:=List.mem_flatMap.1 hd
   obtain ⟨y,hy,rfl⟩:=List.mem_map.1 hd
   have l1:=lbI_lt (List.mem_map.2 ⟨x,hx,rfl⟩ : x.id ∈ (canonC a).map Cl.id)
   have l2:=lbI_lt (List.mem_map.2 ⟨y,hy,rfl⟩ : y.id ∈ (canonC b).map Cl.id)
   rw [List.length_map,canonC_length] at l1 l2
   show prodId (canonC a) (canonC b) x.id y.id ≤ _
   unfold prodId
   rw [canonC_length]
   have h3 : (lbI ((canonC a).map Cl.id) x.id + 1) * b.length ≤ a.length * b.length:=Nat.mul_le_mul_right _ l1
   rw [Nat.succ_mul] at h3
   have h4 : ((lbI ((canonC a).map Cl.id) x.id * b.length : Nat) : Int) = (lbI ((canonC a).map Cl.id) x.id : Int) * (b.length : Int):=Int.natCast_mul _ _
   rw [← h4]
   omega
  ·exact ⟨⟨by simp,List.Pairwise.nil,by simp,by simp,by simp⟩,fun c hc=>by simp at hc,by simp⟩
theorem poly_check : ∀ n,n < 7 → 2 ≤ n → (checkC (polyC n)).2 = 0 ∧ ∀ c ∈ polyC n,c.id ≤ 90:=by decide +kernel
theorem simpAll_two : ∀ (ls acc : List (List Int)) {all : List (List Int)},simpAll acc ls = some all → (∀ x ∈ ls,x.length ≤ 2) → all.length ≤ acc.length + 3 * ls.length
 | [],acc,all,h,_=>by cases h; simp
 | s :: r,acc,all,h,hl=>by
  have hs:=hl s (by simp)
  have h3 : (setC s).length ≤ s.length:=by
   unfold setC
   exact Nat.le_trans (uniq_length _ _) (by rw [sortI_length]; exact lR _)
  simp only [List.length_cons]
  unfold simpAll at h
  split at h
  ·have:=simpAll_two r acc h fun x hx=>hl x (by simp [hx])
   omega
  ·split at h
   ·cases h
   ·have h1:=simpAll_two r _ h fun x hx=>hl x (by simp [hx])
    have h2 : (addSets acc (setC s)).length ≤ acc.length + 3:=by
     unfold addSets
     refine Nat.le_trans (uniq_length _ _) ?_
     rw [(sortL_perm _).length_eq,List.length_append]
     have : 2 ^ (setC s).length ≤ 2 ^ 2:=Nat.pow_le_pow_right dC oM
     simp [subsetsC]
     omega
    omega
theorem circle_len : (simpC [[0,1],[1,2],[0,2]]).length ≤ 9:=by
 unfold simpC
 cases h : simpAll [] [[0,1],[1,2],[0,2]] with
 | none=>simp
 | some all =>
  have:=simpAll_two _ _ h dC
  dsimp only
  rw [canonC_length,simpCells_length]
  simpa using this
theorem rt_base (m : Int) (ls : List (List Int)) (y : Int) : Rt (bigC (baseM m ls y)) ∧ ∀ c ∈ bigC (baseM m ls y),c.id ≤ 90:=by
 have key : ∀ l : List Cl,Rt l → (l.length ≤ 45 → ∀ c ∈ l,c.id ≤ 90) → Rt (bigC l) ∧ ∀ c ∈ bigC l,c.id ≤ 90:=by
  intro l h1 h2
  unfold bigC
  split
  ·have h3:=rt_prod (simpC [[0,1],[1,2],[0,2]]) (simpC [[0,1],[1,2],[0,2]])
   refine ⟨h3.1,fun c hc=>?_⟩
   have h4:=h3.2.1 c hc
   have h5:=h3.2.2
   have h6 : torusC.length ≤ 9 * 9:=Nat.le_trans h5 (Nat.mul_le_mul circle_len circle_len)
   have h7 : c.id ≤ torusC.length:=h4
   omega
  ·exact ⟨h1,h2 oM⟩
 have hS : ∀ ls,Rt (bigC (simpC ls)) ∧ ∀ c ∈ bigC (simpC ls),c.id ≤ 90:=fun ls=>key _ (rt_simp ls).1 fun hl c hc=>by have:=(rt_simp ls).2 c hc; omega
 have hP : ∀ a b,Rt (bigC (refProdC a b)) ∧ ∀ c ∈ bigC (refProdC a b),c.id ≤ 90:=fun a b=>key _ (rt_prod a b).1 fun hl c hc=>by have:=(rt_prod a b).2.1 c hc; omega
 have h5:=modW_range y 5 dC dC
 unfold baseM
 repeat' split
 ·exact hS _
 ·exact hP _ _
 ·have h6:=poly_check (2 + modW y 5).toNat oM oM
  have h7:=rt_of h6.1
  rw [show canonC (polyC (2 + modW y 5).toNat) = polyC (2 + modW y 5).toNat from canonC_idem _] at h7
  exact key _ h7 fun _=>h6.2
 ·exact hP _ _
 ·exact hS _
 ·exact hS _
theorem mix_inj : ∀ k ∈ [1,3,5],∀ a,a < 91 → ∀ b,b < 91 → mixC (a : Nat) k = mixC (b : Nat) k → a = b:=by decide +kernel
theorem mix_pos : ∀ k ∈ [1,3,5],∀ a,a < 91 → 0 < a → 0 < mixC (a : Nat) k:=by decide +kernel
theorem made_right (kd : Int) (ls : List (List Int)) (y : Int) : Rt (madeC kd ls y):=by
 obtain ⟨h1,h2⟩:=rt_base (modW kd 8) ls y
 have hk : renK y ∈ [(1 : Int),3,5]:=by
  have:=modW_range (IntKind.i64.wrap (y.tdiv 7)) 3 dC dC
  unfold renK
  generalize modW (IntKind.i64.wrap (y.tdiv 7)) 3 = q at *
  rcases (by omega : q = 0 ∨ q = 1 ∨ q = 2) with rfl | rfl | rfl <;> decide
 refine ren_right h1 ⟨fun a ha b hb e=>?_,fun a ha=>?_⟩ _
 ·have p1:=h1.pos a ha
  have p2:=h1.pos b hb
  have q1:=h2 a ha
  have q2:=h2 b hb
  have e1 : ((a.id.toNat : Nat) : Int) = a.id:=Int.toNat_of_nonneg oM
  have e2 : ((b.id.toNat : Nat) : Int) = b.id:=Int.toNat_of_nonneg oM
  have:=mix_inj _ hk a.id.toNat oM b.id.toNat oM (by rw [e1,e2]; exact e)
  have hid : a.id = b.id:=oM
  have f1:=h1.find ha
  have f2:=h1.find hb
  rw [hid,f2] at f1
  injection f1 with f1
  exact f1.symm
 ·have p1:=h1.pos a ha
  have q1:=h2 a ha
  have e1 : ((a.id.toNat : Nat) : Int) = a.id:=Int.toNat_of_nonneg oM
  have:=mix_pos _ hk a.id.toNat oM oM
  rw [e1] at this
  exact this
theorem mix_le : ∀ k ∈ [1,3,5],∀ a,a < 91 → mixC (a : Nat) k ≤ 300:=by decide +kernel
theorem made_ids (kd : Int) (ls : List (List Int)) (y : Int) : ∀ c ∈ madeC kd ls y,inI64 c.id:=by
 intro c hc
 have h0:=(made_right kd ls y).pos c hc
 obtain ⟨h1,h2⟩:=rt_base (modW kd 8) ls y
 have hk : renK y ∈ [(1 : Int),3,5]:=by
  have:=modW_range (IntKind.i64.wrap (y.tdiv 7)) 3 dC dC
  unfold renK
  generalize modW (IntKind.i64.wrap (y.tdiv 7)) 3 = q at *
  rcases (by omega : q = 0 ∨ q = 1 ∨ q = 2) with rfl | rfl | rfl <;> decide
 obtain ⟨a,ha,rfl⟩:=mem_ren (renT y) hc
 have p1:=h1.pos a ha
 have q1:=h2 a ha
 have e1 : ((a.id.toNat : Nat) : Int) = a.id:=Int.toNat_of_nonneg oM
 have:=mix_le _ hk a.id.toNat oM
 rw [e1] at this
 have h3 : (normC (renCell (renK y) (renT y) a)).id = mixC a.id (renK y):=rfl
 rw [h3] at h0 ⊢
 unfold inI64
 omega
set_option maxHeartbeats 1000000
theorem subP (E : World) (g : PH) (b m : Nat) (sm : List (Int × Value)) (q : Int → Bool) (tl : List Cl) (hb : g b = some (.cells #[.map (some m)] 84 (0,0))) (hm : Mp g m sm) (hs : SetI sm q) : PredOk E (.func (.func 67) #[] #[pp b 0]) (fun c=>q c.id) tl g:=by
 intro g s c r hle hmem hc
 refine CallV.mk (cap:=[pp b 0]) call67 ?_
 have hb':=hle _ _ hb
 have hm':=hm.mono hle
 refine Ctr.of (args:=[rcv r,pp b 0]) func67 I ntmps67 (bE I) ?_
 refine SC.sR (SL.bx (bO I) fun b2=>?_)
 refine lA I (SL.nT (SC.sR (lK (qL isAgg84 I (cK hb' I)) (lU (fA uT40 I zT3 I) (lK (qL iT3 I (cO 0 I I)) (lK (SQ.eq (v':=vb (q c.id)) (SQ.lookup mty84 I I (MapAt.known hm')) (by rw [← hc.1]; exact hs.get _)) ?_))))))
 refine lA I (SL.nT (rE (dR (s':=s) (.cons _ (.refl _)) ?_)))
 exact ST.ret1 (.inl I) results67 I ⟨I,I,I⟩
theorem sub_new (E : World) (g : PH) (s : Own) (v iv : Value) (l : List Cl) (ids : List Int) (hv : Cells g v l) (hf : Fits l) (hi : Ints g iv ids) (hl : ids.length < 1099511627776) :
  Ctr Tryz.prog E 17 #[.agg #[v],iv] g s (fun r g' s'=>s = s' ∧ Le g g' ∧ ∃ u,r = .agg #[u] ∧ CellsK (mns g' g) u ((tabC l).filter fun c=>(closF (tabC l) ids).contains c.id)):=by
 have hft:=tabC_fits hf
 obtain ⟨ip,ic,rfl⟩:=SlA.form hi
 refine Ctr.of (args:=[.agg #[v],.slice ip ids.length ic]) func17 I ntmps17 (bE I) ?_
 refine SC.sR (SL.bx (bO I) fun b2=>?_)
 refine SL.bx (aL zeroValue31) fun b4=>?_
 refine SL.nT (SC.sR (lK (qV 1 iT31 zT31 I I I) (lW (cL kT56 I (of_new E g _ v l hv hf)) ?_)))
 rintro tv g1 _ ⟨rfl,hle1,htk⟩
 have ht : Tab g1 tv (tabC l):=htk.mono (Le.refl _) fun _ _=>CellK.cr (mns_le _ _)
 refine lA I (SL.nT (SC.sR (lM I (lM I (lW (cL call65 I (closure_spec E g1 _ _ _ (tabC l) ids ht hft (hi.mono hle1) hl)) ?_)))))
 rintro _ g2 _ ⟨m,rfl,hle2,rfl⟩
 refine SL.bx (aL zeroValue84) fun b6=>?_
 refine SL.O2 (sK 0 sizeOf84 I I I I I ⟨I,trivial⟩) (SL.freeze fun g3 hle3 hb6=>?_)
 refine SL.freezeMap fun g4 hle4 hm4=>?_
 have hle14:=hle2.trans (hle3.trans hle4)
 refine SL.nT (SC.sR (lM I (lU (SU.mkFunc I) (lW (cL call66 I (only_gen (CellK (mns g1 g)) E g4 _ _ _ (tabC l) _ (fun _ _ h=>CellK.cr ((mns_le _ _).trans hle14) h) (htk.mono hle14 fun _ _ h=>h) (tabC_nodup l) hft (subP E g4 b6 m _ (fun k=>(closF (tabC l) ids).contains k) _ (hle4 _ _ hb6) hm4 (setP_set _)))) ?_))))
 rintro _ g5 _ ⟨rfl,hle5,x,rs9,rfl,hx1,hx2⟩
 have hx : CellsK (mns g5 g) x _:=⟨rs9,hx1.mono (mns_anti (hle1.trans hle14)),hx2.mono fun _ _=>CellK.mono (mns_mono (hle14.trans hle5))⟩
 obtain ⟨q,d,rfl⟩:=hx1.form
 refine SL.O2 (sK 0 zT31 I I I I I sB) ?_
 refine SL.nT (rE ?_)
 exact ST.retCD 0 s (.inl I) results17 I iT31 zT31 I I (.cons _ (.cons _ (.refl _))) ⟨I,hle1.trans (hle14.trans hle5),_,I,hx⟩
theorem sub_spec (E : World) (g : PH) (s : Own) (v iv : Value) (l : List Cl) (ids : List Int) (hv : Cells g v l) (hf : Fits l) (hi : Ints g iv ids) (hl : ids.length < 1099511627776) :
  Ctr Tryz.prog E 17 #[.agg #[v],iv] g s (fun r g' s'=>s = s' ∧ Le g g' ∧ ∃ u,r = .agg #[u] ∧ Cells g' u ((tabC l).filter fun c=>(closF (tabC l) ids).contains c.id)) :=
 (sub_new E g s v iv l ids hv hf hi hl).mono fun _ _ _ ⟨h1,h2,u,h3,h4⟩=>⟨h1,h2,u,h3,h4.cells (mns_le _ _)⟩
def fewV (l : List Cl) (n : Int) : Int:=if decide ((l.length : Int) > 0) && decide (n.tmod 5 ≠ 0) then (pickC l n).id else n
def fewC (l : List Cl) (ns : List Int) : List Int:=(ns.take 6).map (fewV l)
theorem fewC_length (l : List Cl) (ns : List Int) : (fewC l ns).length ≤ 6:=by simp [fewC]; omega
theorem few_spec (E : World) (g : PH) (s : Own) (v iv : Value) (l : List Cl) (ns : List Int) (hv : Cells g v l) (hf : Fits l) (hi : Ints g iv ns) :
  Ctr Tryz.prog E 10 #[.agg #[v],iv] g s (fun r g' s'=>s = s' ∧ Le g g' ∧ Ints g' r (fewC l ns)):=by
 obtain ⟨rs,hrs,hall⟩:=hv
 have hrl:=hall.length
 have hfl:=hf.1
 obtain ⟨p,c,rfl⟩:=hrs.form
 obtain ⟨ip,ic,rfl⟩:=SlA.form hi
 refine Ctr.of (args:=[.agg #[.slice p rs.length c],.slice ip ns.length ic]) func10 I ntmps10 (bE I) ?_
 refine SC.sR (SL.bx (bO I) fun b2=>?_)
 refine lA I (SL.nT (SC.sR (lA I (SL.nT (sQ (SC.sR (lA I (SL.nT (bK ?_)))))))))
 refine SC.to (g':=g) (s':=pt b2 (.cells #[.slice p rs.length c] 31 (0,0)) :: s) (fun w hw=>hw) ?_
 refine SC.nilRow 3 1 ?_
 refine oP (ι:=Value × Nat) (fun i=>[(1,.slice ip ns.length ic),(2,pp b2 0),(5,i.1),(6,vi i.2)]) (fun _=>g)
  (fun i=>rowA encInt 3 i.1 ((ns.take i.2).map (fewV l)) :: pt b2 (.cells #[.slice p rs.length c] 31 (0,0)) :: s)
  (fun i=>i.2 ≤ ns.length ∧ i.2 ≤ 6) (fun i=>ns.length - i.2) (.slice none 0 0,0) sB rfl rfl ⟨Nat.zero_le _,Nat.zero_le _⟩ ?_
 rintro ⟨ov,i⟩ ⟨hk,hk6⟩
 dsimp only at hk hk6 ⊢
 have f1 : (i : Int) < (ns.length : Int) → (decide ((i : Int) < (ns.length : Int)) && decide ((i : Int) < 6)) = decide ((i : Int) < 6):=fun h=>by simp [h]
 have f2 : ¬ (i : Int) < (ns.length : Int) → (decide ((i : Int) < (ns.length : Int)) && decide ((i : Int) < 6)) = false:=fun h=>by simp only [h,decide_false,Bool.false_and]
 refine sQ ?_
 refine SC.cutB 15 ((decide ((i : Int) < (ns.length : Int)) && decide ((i : Int) < 6))) ?_ ?_
 ·refine rG (lM I (lM I (lU (eN uT27 I) (lU (lS I I) (lM I ?_)))))
  refine sP ?_ ?_
  ·intro h12
   refine lY I I I (mV I) (lY I I I (lS I I) (lU (pT I I) (nL ?_)))
   exact ST.mid1 (by (rw [f1 h12]; rfl)) mI
  ·intro h12
   refine lZ I I I (lZ I I I (lU (pF I I) (nL ?_)))
   exact ST.mid1 (by (rw [f2 h12]; rfl)) mI
 refine iQ I (fun hc=>?_) (fun hc=>?_)
 ·rw [Bool.and_eq_true,decide_eq_true_iff,decide_eq_true_iff] at hc
  have hil : i < ns.length:=oM
  have hb1:=SlA.based hi oM
  have hgi : ns[((i : Nat) : Int).toNat]? = some ns[i]:=gE hil
  have hsucc:=map_take_succ hil (fewV l)
  generalize ns[i] = n at *
  have f3 : (l.length : Int) > 0 → (decide ((l.length : Int) > 0) && decide (n.tmod 5 ≠ 0)) = decide (n.tmod 5 ≠ 0):=fun h=>by simp only [h,decide_true,Bool.true_and]
  have f4 : ¬ (l.length : Int) > 0 → (decide ((l.length : Int) > 0) && decide (n.tmod 5 ≠ 0)) = false:=fun h=>by simp only [h,decide_false,Bool.false_and]
  rw [← hrl] at *
  refine kP (tN (sQ (bK (SC.sR (lM I (lM I (lU (iA uT27 zT3 I I hb1 oM sL) (lK (eB iT3 I (SlA.rd hi) hgi I) (lA I (SL.nT ?_))))))))))
  refine SC.cut (ι:=Unit) (fun _=>[(1,.slice ip ns.length ic),(2,pp b2 0),(5,ov),(6,vi i),(7,vi (fewV l n))]) (fun _=>g) (fun _=>rowA encInt 3 ov ((ns.take i).map (fewV l)) :: pt b2 (.cells #[.slice p l.length c] 31 (0,0)) :: s) (fun _=>True) ?_ ?_
  ·refine SC.cutB 33 ((decide ((l.length : Int) > 0) && decide (n.tmod 5 ≠ 0))) ?_ ?_
   ·refine rG (lU (fA uT31 I zT29 I) (lK (qL (v:=.slice p l.length c) iT29 I (cO 1 I I)) (lU (eN uT29 I) (lU (gR I I) (lM I ?_)))))
    refine sP ?_ ?_
    ·intro h26
     refine lY I I I (mV I) (lY I I I (mV I) (lY I I I (iA uT27 zT3 I I hb1 oM sL) (SL.gq (gT I I I dC) (eB iT3 I (SlA.rd hi) hgi I) dC (lY I I I (SU.rem I I dC) (lY I I I (nQ I I) (lU (pT I I) (nL ?_)))))))
     exact ST.mid1 (by (rw [f3 h26]; rfl)) mI
    ·intro h26
     refine lZ I I I (lZ I I I (lZ I I I (lZ I I I (lZ I I I (lZ I I I (lU (pF I I) (nL ?_)))))))
     exact ST.mid1 (by (rw [f4 h26]; rfl)) mI
   refine iQ I (fun hd=>?_) (fun hd=>?_)
   ·have hpos : (l.length : Int) > 0:=by rw [Bool.and_eq_true,decide_eq_true_iff] at hd; exact hd.1
    obtain ⟨hm1,hm2⟩:=modW_nat n l.length oM oM
    have hml : (modW n l.length).toNat < rs.length:=by have:=hall.length; omega
    have hbv:=hrs.based oM
    have hcr:=hall.get (gE hm2) (gE hml)
    have hgr : rs[(modW n (l.length : Nat)).toNat]? = some rs[(modW n l.length).toNat]:=gE hml
    have hid : rs[(modW n l.length).toNat].id = (pickC l n).id:=by
     rw [hcr.1]
     unfold pickC
     rw [List.getD_eq_getElem?_getD,gE hm2]
     rfl
    refine dW [] [(0,2),(1,1),(2,2),(3,2),(4,2),(5,1),(6,2),(7,1),(8,2),(9,0),(10,2),(11,2),(12,1),(13,2)] Tryz.mixed (by kernel_rfl) ?_
    refine pU rfl (fA uT31 rfl zT29 rfl) (pK rfl (qL (v:=.slice p l.length c) iT29 rfl (cO 1 rfl rfl)) (pU rfl (mV rfl) (pU rfl (mV rfl) (pU rfl (iA uT27 zT3 rfl rfl hb1 oM sL) (pK rfl (eB iT3 rfl (SlA.rd hi) hgi rfl) (pU rfl (fA uT31 rfl zT29 rfl) (pK rfl (qL (v:=.slice p l.length c) iT29 rfl (cO 1 rfl rfl)) (pU rfl (eN uT29 rfl) (SP.o rfl (cL kT34 rfl (mod_spec E g _ n l.length oM)) dC (.inr (by rintro _ _ _ ⟨rfl,rfl,rfl⟩; exact ⟨by exact Le.refl _,(by exact .refl _)⟩)) ?_)))))))))
    rintro _ _ _ ⟨rfl,rfl,rfl⟩
    refine pU rfl (iA uT29 zT40 rfl rfl hbv oM sL) (pU rfl (fC uT40 rfl zT3 rfl hbv) (pK rfl (pA (e:=encCell) (o:=0) (u:=vi (pickC l n).id) iT3 rfl hrs.rd hgr (by rw [← hid]; rfl)) ?_))
    refine pU I (aS I) (pN ?_)
    exact ST.mid () ⟨rfl,rfl,rfl,rfl,by unfold fewV; rw [if_pos hd]; rfl,trivial⟩ rfl rfl trivial
   ·refine kP ?_
    exact ST.mid () ⟨rfl,rfl,rfl,rfl,by unfold fewV; rw [if_neg (by rw [hd]; simp)]; rfl,trivial⟩ rfl rfl trivial
  rintro _ -
  try dsimp only
  refine rG (lM I (lM I (lW (bS sty27 I I I (szs_mk sB) dC) ?_)))
  rintro _ _ _ ⟨b49,rfl,rfl,rfl⟩
  refine lW (aP (e:=encInt) 0 (fewV l n) sty27 I I I I I (by rw [List.length_map,List.length_take]; omega) (by rw [List.length_map,List.length_take]; omega)) ?_
  rintro ov' _ _ ⟨rfl,rfl⟩
  refine lA I (nL (bN (tN (rG (lM I (lU (aD I I oM) (lA I (nL ?_))))))))
  refine ST.to (fun w hw=>?_) (g':=g) (s':=rowA encInt 3 ov' ((ns.take (i + 1)).map (fewV l)) :: pt b2 (.cells #[.slice p l.length c] 31 (0,0)) :: s) ?_
  ·rw [hsucc]; exact hw
  exact gA (ov',i + 1) sB I (by rw [← hrl]) ⟨lN,lN⟩ lN
 ·have hns : ns.take i = ns.take 6:=by
   rw [Bool.and_eq_false_iff,decide_eq_false_iff_not,decide_eq_false_iff_not] at hc
   by_cases h6 : i = 6
   ·rw [h6]
   ·rw [tL oM,tL oM]
  rw [hns]
  refine xI (tX (tX (bX (tN (SC.sR (lM I (lA I (SL.nT (rE (fT fun g2 hle2 hs2=>?_))))))))))
  refine dR (s':=s) (.cons _ (.refl _)) ?_
  exact ST.ret1 (.inl I) results10 I ⟨I,hle2,hs2⟩
end Go.Proofs.YtkdibcicncjpdaaGreatDoor
namespace Go.Sy
open Go
structure Md where
 ro : Option Nat
 ds : List Deferred
def wf (ro : Option Nat) : Fence:={ fn:=fun _=>True,depth:=none,alive:=false,round:=ro }
def bare (a : Act) : Act:={ a with defers:=[] }
theorem bare_eval (a : Act) : (bare a).eval = a.eval:=by funext x; cases x <;> rfl
theorem bare_put (a : Act) (d : Option Tmp) (v : Value) : bare (a.put d v) = (bare a).put d v:=by cases d <;> rfl
theorem put_defers (a : Act) (d : Option Tmp) (v : Value) : (a.put d v).defers = a.defers:=by cases d <;> rfl
def Okd (ds : List Deferred) (N : Nat) (f : Fr) (a : Act) : Prop:=a.defers = ds ∧ Ok N f (bare a)
section
variable {P : Program} {M : Md} {N : Nat} {E : World} {Q : Exit → Act → World → Prop} {f f' : Fr} {g g' : PH} {s s' : Own} {ops : Array Oper}
theorem Okd.put {ds : List Deferred} {a : Act} (h : Okd ds N f a) {d : Nat} (hlt : d < N) (v : Value) : Okd ds N ((d,v) :: f) (a.put (some d) v):=⟨h.1,by rw [bare_put]; exact h.2.put hlt v⟩
theorem Okd.sub {ds : List Deferred} {a : Act} (h : Okd ds N f a) (hs : Sub f' f) : Okd ds N f' a:=⟨h.1,h.2.sub hs⟩
theorem Okd.ev {ds : List Deferred} {a : Act} (h : Okd ds N f a) {x : Operand} {v : Value} (hx : Sy.ev f x = some v) : a.eval x = v:=by rw [← bare_eval]; exact h.2.ev hx
def XC (P : Program) (M : Md) (N : Nat) (E : World) (c : Code) (Q : Exit → Act → World → Prop) (f : Fr) (g : PH) (s : Own) : Prop:=∀ a w,Okd M.ds N f a → At E g s w → c.wpIn (wf M.ro) 0 P Q a w
def XT (M : Md) (N : Nat) (E : World) (Q : Exit → Act → World → Prop) (e : Exit) (f : Fr) (g : PH) (s : Own) : Prop:=∀ a w,Okd M.ds N f a → At E g s w → Q e a w
def XL (P : Program) (M : Md) (N : Nat) (E : World) (ops : Array Oper) (Q : Exit → Act → World → Prop) (l : List Oper) (f : Fr) (g : PH) (s : Own) : Prop:=∀ a w,Okd M.ds N f a → At E g s w → wpListIn (wf M.ro) 0 P ops Q l a w
def XO (P : Program) (M : Md) (N : Nat) (E : World) (o : Oper) (f : Fr) (g : PH) (s : Own) (K : Value → PH → Own → Prop) : Prop :=
 ∀ a w,Okd M.ds N f a → At E g s w → ∀ (Q : Exit → Act → World → Prop) (next : Act → World → Prop),
  (∀ v g' s' w',K v g' s' → At E g' s' w' → next (a.put o.dst v) w') → o.wpIn (wf M.ro) 0 P a w next Q
theorem XC.to {c : Code} (h : ∀ w,At E g s w → At E g' s' w) (hc : XC P M N E c Q f g' s') : XC P M N E c Q f g s:=fun a w ha hw=>hc a w ha (h w hw)
theorem XT.drop {e : Exit} (hs : s'.Sublist s) (h : XT M N E Q e f g s') : XT M N E Q e f g s:=fun a w ha hw=>h a w ha (hw.sublist hs)
theorem XL.to {l : List Oper} (h : ∀ w,At E g s w → At E g' s' w) (hc : XL P M N E ops Q l f g' s') : XL P M N E ops Q l f g s:=fun a w ha hw=>hc a w ha (h w hw)
theorem XC.facts {c : Code} (h : (∃ w,At E g s w) → XC P M N E c Q f g s) : XC P M N E c Q f g s:=fun a w ha hw=>h ⟨w,hw⟩ a w ha hw
theorem XL.facts {l : List Oper} (h : (∃ w,At E g s w) → XL P M N E ops Q l f g s) : XL P M N E ops Q l f g s:=fun a w ha hw=>h ⟨w,hw⟩ a w ha hw
theorem XT.facts {e : Exit} (h : (∃ w,At E g s w) → XT M N E Q e f g s) : XT M N E Q e f g s:=fun a w ha hw=>h ⟨w,hw⟩ a w ha hw
theorem XC.skip (h : XT M N E Q .normal f g s) : XC P M N E .skip Q f g s:=fun a w ha hw=>wpIn_skip (h a w ha hw)
theorem XC.ret (h : XT M N E Q .ret f g s) : XC P M N E .ret Q f g s:=fun a w ha hw=>wpIn_ret (h a w ha hw)
theorem XC.exit {id : Nat} (h : XT M N E Q (.exit id) f g s) : XC P M N E (.exit id) Q f g s:=fun a w ha hw=>wpIn_exit (h a w ha hw)
theorem XC.seq {x y : Code} (h : XC P M N E x (Exit.then (y.wpIn (wf M.ro) 0 P Q) Q) f g s) : XC P M N E (.seq x y) Q f g s:=fun a w ha hw=>wpIn_seq (h a w ha hw)
theorem XC.block {id : Nat} {c : Code} (h : XC P M N E c (Exit.inBlock id Q) f g s) : XC P M N E (.block id c) Q f g s:=fun a w ha hw=>wpIn_block (h a w ha hw)
theorem XC.cond {c : Operand} {x y : Code} {t : Bool} (hc : ev f c = some (.bool t)) (h : XC P M N E (if t then x else y) Q f g s) : XC P M N E (.cond c x y) Q f g s :=
 fun a w ha hw=>wpIn_cond (ha.ev hc) (h a w ha hw)
theorem XC.condT {c : Operand} {x y : Code} (hc : ev f c = some (.bool true)) (h : XC P M N E x Q f g s) : XC P M N E (.cond c x y) Q f g s:=XC.cond hc h
theorem XC.condF {c : Operand} {x y : Code} (hc : ev f c = some (.bool false)) (h : XC P M N E y Q f g s) : XC P M N E (.cond c x y) Q f g s:=XC.cond hc h
theorem XC.ifB {c : Operand} {x y : Code} {t : Bool} (hc : ev f c = some (.bool t)) (h1 : t = true → XC P M N E x Q f g s) (h2 : t = false → XC P M N E y Q f g s) :
  XC P M N E (.cond c x y) Q f g s:=by
 cases t
 ·exact XC.condF hc (h2 I)
 ·exact XC.condT hc (h1 I)
theorem XC.ifP {c : Operand} {x y : Code} {p : Prop} [Decidable p] (hc : ev f c = some (.bool (decide p))) (h1 : p → XC P M N E x Q f g s) (h2 : ¬ p → XC P M N E y Q f g s) :
  XC P M N E (.cond c x y) Q f g s :=
 XC.ifB hc (fun h=>h1 (of_decide_eq_true h)) (fun h=>h2 (of_decide_eq_false h))
theorem XT.thenN {c : Code} (h : XC P M N E c Q f g s) : XT M N E (Exit.then (c.wpIn (wf M.ro) 0 P Q) Q) .normal f g s:=h
theorem XT.thenX {K : Act → World → Prop} {id : Nat} (h : XT M N E Q (.exit id) f g s) : XT M N E (Exit.then K Q) (.exit id) f g s:=h
theorem XT.blockN {id : Nat} (h : XT M N E Q .normal f g s) : XT M N E (Exit.inBlock id Q) .normal f g s:=h
theorem XT.blockX {id : Nat} (h : XT M N E Q .normal f g s) : XT M N E (Exit.inBlock id Q) (.exit id) f g s:=fun a w ha hw=>by simpa [Exit.inBlock] using h a w ha hw
def AgainX {ι : Type} (ds : List Deferred) (N : Nat) (E : World) (F : ι → Fr) (G : ι → PH) (S : ι → Own) (J : ι → Prop) (μ : ι → Nat) (i : ι) (a : Act) (w : World) : Prop :=
 ∃ j,Okd ds N (F j) a ∧ At E (G j) (S j) w ∧ J j ∧ μ j < μ i
theorem XT.again {ι : Type} {F : ι → Fr} {G : ι → PH} {S : ι → Own} {J : ι → Prop} {μ : ι → Nat} {i : ι} (j : ι) (hf : Sub (F j) f) (hg : G j = g) (hs : S j = s) (hJ : J j) (hμ : μ j < μ i) :
  XT M N E (Exit.then (AgainX M.ds N E F G S J μ i) Q) .normal f g s:=fun _ _ ha hw=>⟨j,ha.sub hf,by rw [hg,hs]; exact hw,hJ,hμ⟩
theorem XC.loop {ι : Type} {c : Code} (F : ι → Fr) (G : ι → PH) (S : ι → Own) (J : ι → Prop) (μ : ι → Nat) (i : ι) (hf : Sub (F i) f) (hg : G i = g) (hs : S i = s) (h0 : J i)
  (round : ∀ i,J i → XC P M N E c (Exit.then (AgainX M.ds N E F G S J μ i) Q) (F i) (G i) (S i)) : XC P M N E (.loop c) Q f g s:=by
 intro a w ha hw
 have key : ∀ n,∀ (i : ι) (a : Act) (w : World),μ i = n → Okd M.ds N (F i) a → At E (G i) (S i) w → J i → ∀ (b : Frame) (k : List Item) (cs : List Frame),b.roundOf = (wf M.ro).round → (wf M.ro).fn b.fn → (wf M.ro).room (cs.length + 1 + 0) →
   ∃ e a' w',Q e a' w' ∧ ArrivesIn (Machine.fenced P (wf M.ro)) P (lone (b.atR a (.code c :: .inLoop c :: k)) cs w) b k cs e a' w':=by
  intro n
  induction n using Nat.strongRecOn with
  | _ n ih =>
   intro i a w hn ha hI hJ b k cs hro hb hr
   obtain ⟨e,a₁,w₁,hq,harr⟩:=round i hJ a w ha hI b (.inLoop c :: k) cs hro hb hr
   cases e with
   | normal =>
    obtain ⟨j,hok,hI₁,hJ₁,hlt⟩:=hq
    obtain ⟨e₂,a₂,w₂,hq₂,harr₂⟩:=ih (μ j) (hn ▸ hlt) j a₁ w₁ rfl hok hI₁ hJ₁ b k cs hro hb hr
    exact ⟨e₂,a₂,w₂,hq₂,.of_steps (StepsIn.trans harr (.one (fenced_calm hb hr I) stepR_inLoop)) harr₂⟩
   | exit id=>exact ⟨_,a₁,w₁,hq,.pass (x:=.inLoop c) rfl (fun _ _=>.inl (by simp)) harr⟩
   | goto l=>exact ⟨_,a₁,w₁,hq,.pass (x:=.inLoop c) rfl (fun _ _=>.inl (by simp)) harr⟩
   | ret=>exact ⟨_,a₁,w₁,hq,.pass (x:=.inLoop c) rfl (fun _ _=>.inl (by simp)) harr⟩
   | panic ch=>exact ⟨_,a₁,w₁,hq,.pass (x:=.inLoop c) rfl (fun _ _=>.inl (by simp)) harr⟩
   | outgrown=>exact ⟨_,a₁,w₁,hq,.pass (x:=.inLoop c) rfl (fun _ _=>.inl (by simp)) harr⟩
 intro b k cs hro hb hr
 obtain ⟨e,a',w',hq,harr⟩:=key _ i a w rfl (ha.sub hf) (by rw [hg,hs]; exact hw) h0 b k cs hro hb hr
 exact ⟨e,a',w',hq,.of_steps (.one (fenced_calm hb hr I) stepR_loop) harr⟩
theorem XC.region {id : Nat} (h : XL P M N E ops Q ops.toList f g s) : XC P M N E (.region id ops false) Q f g s:=fun a w ha hw=>wpIn_region_list (h a w ha hw)
theorem XL.nil (h : XT M N E Q .normal f g s) : XL P M N E ops Q [] f g s:=fun a w ha hw=>h a w ha hw
theorem SO.xo {o : Oper} {K : Value → PH → Own → Prop} (hno : ∀ c,o.op ≠ .defer c) (h : SO P N E o f g s K) : XO P M N E o f g s K:=by
 intro a w ha hw Q next hn
 refine ⟨fun _ _=>trivial,?_⟩
 rw [Oper.semAt_eq _ _ _ hno]
 have h1:=h (bare a) w ha.2 hw (fun _ _ _=>False) (fun a' w'=>a'.defers = [] ∧ ∃ v g' s',a' = (bare a).put o.dst v ∧ K v g' s' ∧ At E g' s' w') (fun v g' s' w' hK hw'=>⟨put_defers _ _ _,v,g',s',rfl,hK,hw'⟩)
 unfold Oper.wp at h1
 rw [bare_eval] at h1
 have key : ∀ v w',(((bare a).put o.dst v).defers = [] ∧ ∃ v' g' s',(bare a).put o.dst v = (bare a).put o.dst v' ∧ K v' g' s' ∧ At E g' s' w') → next (a.put o.dst v) w':=by
  rintro v w' ⟨_,v',g',s',he,hK,hw'⟩
  have : a.put o.dst v = a.put o.dst v':=by
   cases hd : o.dst with
   | none=>rfl
   | some d =>
    rw [hd] at he
    have h2:=congrArg Act.tmps he
    cases a
    simp only [Act.put,bare] at h2 ⊢
    rw [h2]
  rw [this]
  exact hn v' g' s' w' hK hw'
 generalize (execOp a.eval o).run P w = r at h1
 cases r with
 | ok n w' =>
  cases n <;> simp only [Oper.upon] at h1 <;> first | exact h1.elim | skip
  ·exact key _ _ h1
  ·exact key _ _ h1
  ·rename_i f' args
   exact ⟨fun h=>(by cases h),(CallsIn.more (n:=0) ((callsIn_wide (n:=0)).2 (Calls.mono h1 (fun e w'' he=>by cases e with | returned v=>exact key _ _ he | panicked c=>exact he.elim | outgrown=>obtain ⟨_,_,h2⟩:=he; exact h2.elim))) (Nat.zero_le _))⟩
  ·exact absurd h1.1 (by rw [put_defers]; simp)
  ·exact ⟨fun h=>(by cases h),fun c cs _=>let ⟨v,w'',r,st⟩:=h1 c cs; ⟨v,w'',key _ _ r,stepsIn_wide.2 st⟩⟩
 | halt x w'=>cases x <;> simp only [Oper.upon] at h1 <;> exact h1.elim
theorem XL.step {o : Oper} {l : List Oper} {K : Value → PH → Own → Prop} (hg : Gd N ops f o true) (ho : XO P M N E o f g s K)
  (h : ∀ v g' s' a,K v g' s' → Okd M.ds N f a → ∃ f',Okd M.ds N f' (a.put o.dst v) ∧ XL P M N E ops Q l f' g' s') : XL P M N E ops Q (o :: l) f g s:=by
 intro a w ha hw
 unfold wpListIn
 have hwt : Region.wanted o (yielded ops a.tmps) = true:=hg (bare a) ha.2
 rw [if_pos hwt]
 refine ho a w ha hw Q _ fun v g' s' w' hK hw'=>?_
 obtain ⟨f',hf',hn⟩:=h v g' s' a hK ha
 exact hn _ _ hf' hw'
theorem XL.x {d : Nat} {op : Op} {ty : TypeId} {pos : String} {af : Array Edge} {l : List Oper} {K : Value → PH → Own → Prop} (ho : XO P M N E ⟨some d,op,ty,pos,af,none⟩ f g s K) (hd : d < N)
  (h : ∀ v g' s',K v g' s' → XL P M N E ops Q l ((d,v) :: f) g' s') : XL P M N E ops Q (⟨some d,op,ty,pos,af,none⟩ :: l) f g s :=
 XL.step (Gd.none rfl) ho fun v g' s' _ hK ha=>⟨_,ha.put hd v,h v g' s' hK⟩
theorem XL.go {d : Nat} {op : Op} {ty : TypeId} {pos : String} {af : Array Edge} {gd : Option (Nat × Bool)} {l : List Oper} {K : Value → PH → Own → Prop} (hg : Gd N ops f ⟨some d,op,ty,pos,af,gd⟩ true) (ho : SO P N E ⟨some d,op,ty,pos,af,gd⟩ f g s K) (hd : d < N)
  (h : ∀ v g' s',K v g' s' → XL P M N E ops Q l ((d,v) :: f) g' s') (hno : ∀ c,op ≠ .defer c:=by intro _ h; cases h) : XL P M N E ops Q (⟨some d,op,ty,pos,af,gd⟩ :: l) f g s :=
 XL.step hg (ho.xo hno) fun v g' s' _ hK ha=>⟨_,ha.put hd v,h v g' s' hK⟩
theorem XL.o {d : Nat} {op : Op} {ty : TypeId} {pos : String} {af : Array Edge} {l : List Oper} {K : Value → PH → Own → Prop} (ho : SO P N E ⟨some d,op,ty,pos,af,none⟩ f g s K) (hd : d < N)
  (h : ∀ v g' s',K v g' s' → XL P M N E ops Q l ((d,v) :: f) g' s') (hno : ∀ c,op ≠ .defer c:=by intro _ h; cases h) : XL P M N E ops Q (⟨some d,op,ty,pos,af,none⟩ :: l) f g s :=
 XL.go (Gd.none rfl) ho hd h hno
theorem XL.on {op : Op} {ty : TypeId} {pos : String} {af : Array Edge} {l : List Oper} {K : Value → PH → Own → Prop} (ho : SO P N E ⟨none,op,ty,pos,af,none⟩ f g s K)
  (h : ∀ v g' s',K v g' s' → XL P M N E ops Q l f g' s') (hno : ∀ c,op ≠ .defer c:=by intro _ h; cases h) : XL P M N E ops Q (⟨none,op,ty,pos,af,none⟩ :: l) f g s :=
 XL.step (Gd.none rfl) (ho.xo hno) fun v g' s' _ hK ha=>⟨f,ha,h v g' s' hK⟩
theorem XL.gq {d : Nat} {op : Op} {ty : TypeId} {pos : String} {af : Array Edge} {gd : Option (Nat × Bool)} {l : List Oper} {v : Value} (hg : Gd N ops f ⟨some d,op,ty,pos,af,gd⟩ true) (hq : SQ P N E ⟨some d,op,ty,pos,af,gd⟩ f g s v) (hd : d < N)
  (h : XL P M N E ops Q l ((d,v) :: f) g s) (hno : ∀ c,op ≠ .defer c:=by intro _ h; cases h) : XL P M N E ops Q (⟨some d,op,ty,pos,af,gd⟩ :: l) f g s :=
 XL.go hg hq.so hd (fun v' g' s' ⟨e1,e2,e3⟩=>by subst e1; subst e2; subst e3; exact h) hno
theorem XL.q {d : Nat} {op : Op} {ty : TypeId} {pos : String} {af : Array Edge} {l : List Oper} {v : Value} (hq : SQ P N E ⟨some d,op,ty,pos,af,none⟩ f g s v) (hd : d < N)
  (h : XL P M N E ops Q l ((d,v) :: f) g s) (hno : ∀ c,op ≠ .defer c:=by intro _ h; cases h) : XL P M N E ops Q (⟨some d,op,ty,pos,af,none⟩ :: l) f g s:=XL.gq (Gd.none rfl) hq hd h hno
theorem XL.gu {d : Nat} {op : Op} {ty : TypeId} {pos : String} {af : Array Edge} {gd : Option (Nat × Bool)} {l : List Oper} {v : Value} (hg : Gd N ops f ⟨some d,op,ty,pos,af,gd⟩ true) (hq : SU P N ⟨some d,op,ty,pos,af,gd⟩ f v) (hd : d < N)
  (h : XL P M N E ops Q l ((d,v) :: f) g s) (hno : ∀ c,op ≠ .defer c:=by intro _ h; cases h) : XL P M N E ops Q (⟨some d,op,ty,pos,af,gd⟩ :: l) f g s:=XL.gq hg hq.sq hd h hno
theorem XL.u {d : Nat} {op : Op} {ty : TypeId} {pos : String} {af : Array Edge} {l : List Oper} {v : Value} (hq : SU P N ⟨some d,op,ty,pos,af,none⟩ f v) (hd : d < N)
  (h : XL P M N E ops Q l ((d,v) :: f) g s) (hno : ∀ c,op ≠ .defer c:=by intro _ h; cases h) : XL P M N E ops Q (⟨some d,op,ty,pos,af,none⟩ :: l) f g s:=XL.q hq.sq hd h hno
theorem XL.off {d : Nat} {op : Op} {ty : TypeId} {pos : String} {af : Array Edge} {gd : Option (Nat × Bool)} {l : List Oper} (hg : Gd N ops f ⟨some d,op,ty,pos,af,gd⟩ false) (hd : d < N)
  (h : XL P M N E ops Q l ((d,undef) :: f) g s) : XL P M N E ops Q (⟨some d,op,ty,pos,af,gd⟩ :: l) f g s:=by
 intro a w ha hw
 unfold wpListIn
 have hwt : Region.wanted (⟨some d,op,ty,pos,af,gd⟩ : Oper) (yielded ops a.tmps) = false:=hg (bare a) ha.2
 rw [if_neg (by rw [hwt]; simp)]
 exact ⟨fun _ _=>trivial,h _ _ (ha.put hd undef) hw⟩
theorem At.obj {w : World} {b i : Nat} {o o' : Obj} (h : At E g s w) (hi : s[i]? = some (pt b o)) : At E g (s.set i (pt b o')) (w.putObj b o'):=by
 have h2:=h.fresh _ (List.mem_of_getElem? hi) b rfl
 refine h.turn hi I ⟨I,lR _⟩ I (by simp [World.putObj]) (fun k _ hk=>World.putObj_heap_other (fun e=>hk (by simp [pt,e]))) ?_ (fun b' hb'=>?_)
 ·simp only [pt,Option.bind_some]
  exact World.putObj_heap_same h2.2
 ·simp only [pt,Option.some.injEq] at hb'
  subst hb'
  exact ⟨by simpa [World.putObj] using h2.2,.inl I⟩
theorem At.here {w : World} {b i : Nat} {o : Obj} (h : At E g s w) (hi : s[i]? = some (pt b o)) : w.heap[b]? = some o:=by
 have:=h.own _ (List.mem_of_getElem? hi)
 simpa [pt] using this
end
def YieldC (P : Program) (E : World) (l : Nat) (args : Array Value) (g : PH) (s : Own) (R : Value → PH → Own → Prop) : Prop :=
 ∀ w,At E g s w → YieldAt Fence.wide 0 P l args w fun e w'=>∃ v g' s',e = .returned v ∧ At E g' s' w' ∧ R v g' s'
def Gives (P : Program) (E : World) (gf : FuncId) (lb : List Value) {α : Type} (encs : α → List Value) (xs : List α) (g0 : PH) : Prop :=
 ∀ (l : Nat) (ι : Type) (G : ι → PH) (S : ι → Own) (J : List α → ι → Prop) (i0 : ι),J [] i0 → (∀ pre i,J pre i → Le g0 (G i)) →
  (∀ pre x suf i sx,xs = pre ++ x :: suf → J pre i → YieldC P E l (encs x).toArray (G i) (S i ++ sx) (fun v g' s'=>v = .bool true ∧ ∃ j,J (pre ++ [x]) j ∧ g' = G j ∧ s' = S j ++ sx)) →
  ∀ sx,Ctr P E gf (.func (.yield l) #[] #[] :: lb).toArray (G i0) (S i0 ++ sx) (fun _ g' s'=>∃ j,J xs j ∧ g' = G j ∧ s' = S j ++ sx)
section
variable {P : Program} {M : Md} {N : Nat} {E : World} {Q : Exit → Act → World → Prop} {f : Fr} {g : PH} {s : Own} {dst : Option Tmp} {ty : TypeId} {pos : String} {af : Array Edge} {gd : Option (Nat × Bool)}
theorem XO.yield {x : Operand} {l : List Operand} {tys : Array TypeId} {vs : List Value} {k : Nat} {R : Value → PH → Own → Prop} (hx : ev f x = some (.func (.yield k) #[] #[])) (hl : evs f l = some vs) (hY : YieldC P E k vs.toArray g s R) :
  XO P M N E ⟨dst,.call ⟨.value x,l.toArray,tys⟩,ty,pos,af,gd⟩ f g s R:=by
 intro a w ha hw Q next hn
 refine ⟨fun _ _=>trivial,?_⟩
 rw [Oper.semAt_eq _ _ _ (fun _ h=>by cases h)]
 obtain ⟨fn,tmps,assign,body,hy,hR⟩:=hY w hw
 have h1 : a.eval x = .func (.yield k) #[] #[]:=ha.ev hx
 have h2 : l.map a.eval = vs:=by have:=ha.2.evs hl; rwa [bare_eval] at this
 have h3 : (execOp a.eval ⟨dst,.call ⟨.value x,l.toArray,tys⟩,ty,pos,af,gd⟩).run P w = .ok (.round k fn tmps assign body) w:=by
  simp only [execOp,resolve,h1,List.map_toArray,h2]
  simp [Deferred.ofValue,Sem.run_bind,invoke,hy]
 rw [h3]
 refine ⟨fun h=>(by cases h),RoundIn.mono hR fun e w' he=>?_⟩
 obtain ⟨v,g',s',rfl,hat,hRR⟩:=he
 exact hn v g' s' w' hRR hat
theorem Ctr.ofX {n : FuncId} {fn : Func} {c : Code} {args : List Value} {R : Value → PH → Own → Prop}
  (hf : P.funcs[n]? = some fn) (hb : fn.body = some c) (hN : fn.ntmps = N) (hle : args.length ≤ N)
  (h : XC P ⟨none,[]⟩ N E c (bodyPostM (wf none) 0 P fn (Post E R)) (entryFr 0 args) g s) : Ctr P E n args.toArray g s R:=by
 intro w hw
 refine (callsIn_wide (n:=0)).1 (callsIn_of_wp_marks (F:=wf none) hf hb trivial (h _ w ⟨I,⟨I,?_,fun t v hv=>?_⟩⟩ hw) I)
 ·simp [bare,hN]; omega
 ·obtain ⟨_,h2⟩:=get?_entryFr args 0 t v hv
  have hlt : t < args.length:=(List.getElem?_eq_some_iff.1 (by simpa using h2)).1
  simp only [Nat.sub_zero] at h2
  obtain ⟨_,h3⟩:=List.getElem?_eq_some_iff.1 h2
  simp [bare,Array.getElem?_append,hlt,h3]
theorem XT.leave0 {fn : Func} {R : Value → PH → Own → Prop} {e : Exit} (he : e = .ret ∨ e = .normal) (h : ST N E (bodyPost P fn (Post E R)) e f g s) : XT ⟨none,[]⟩ N E (bodyPostM (wf none) 0 P fn (Post E R)) e f g s:=by
 intro a w ha hw
 have h1:=h (bare a) w ha.2 hw
 rcases he with rfl | rfl
 all_goals
  obtain ⟨_,v,h2,h3⟩:=h1
  show LeavesInM _ _ _ _ _ _ a.defers _ _
  rw [ha.1]
  exact ⟨v,h2,h3⟩
theorem XT.leave1 {fn : Func} {R : Value → PH → Own → Prop} {e : Exit} {D : Nat} (he : e = .ret ∨ e = .normal) (h : ST N E (bodyPost P fn (Post E R)) e f g s) :
  XT ⟨none,[⟨.collected D,#[]⟩]⟩ N E (bodyPostM (wf none) 0 P fn (Post E R)) e f g (pt D (.deferred (some [])) :: s):=by
 intro a w ha hw
 have hD : w.heap[D]? = some (.deferred (some [])):=At.here (i:=0) hw rfl
 have hw2:=(At.obj (i:=0) (o':=.deferred none) hw rfl).sublist (List.sublist_cons_self _ _)
 have h1:=h (bare a) _ ha.2 hw2
 rcases he with rfl | rfl
 all_goals
  obtain ⟨_,v,h2,h3⟩:=h1
  show LeavesInM _ _ _ _ _ _ a.defers _ _
  rw [ha.1]
  exact ⟨by simp,.inl ⟨D,_,I,run_takeDeferred hD,v,h2,h3⟩⟩
theorem params2 {a : Act} {t t' : Nat} {u u' : Value} (h : Ok N f (bare a)) (ht : t < N) (ht' : t' < N) : Ok N ((t',u') :: (t,u) :: f) { tmps:=((#[t,t'] : Array Tmp).zip [u,u'].toArray).foldl (fun t (p,v)=>t.setIfInBounds p v) a.tmps,defers:=[] }:=by
 have:=(h.put ht u).put ht' u'
 simpa [Act.put,bare] using this
def RoundEnd {α ι : Type} (E : World) (G : ι → PH) (S : ι → Own) (J : List α → ι → Prop) (pre : List α) (x : α) (sx : Own) : Exit → Act → World → Prop:=fun e _ w'=>e = .normal ∧ ∃ j,At E (G j) (S j ++ sx) w' ∧ J (pre ++ [x]) j
def AssignEnd {N : Nat} (E : World) (g : PH) (s : Own) (fb : Fr) : Exit → Act → World → Prop:=fun e a' w'=>e = .normal ∧ Okd [] N fb a' ∧ At E g s w'
theorem XT.roundEnd {α ι : Type} {G : ι → PH} {S : ι → Own} {J : List α → ι → Prop} {pre : List α} {x : α} {sx : Own} (j : ι) (hg : G j = g) (hs : S j ++ sx = s) (hj : J (pre ++ [x]) j) : XT M N E (RoundEnd E G S J pre x sx) .normal f g s:=fun _ _ _ hw=>⟨rfl,j,by rw [hg,hs]; exact hw,hj⟩
theorem XT.assignEnd {fb : Fr} {ro : Option Nat} (hf : Sub fb f) : XT ⟨ro,[]⟩ N E (AssignEnd (N:=N) E g s fb) .normal f g s:=fun _ _ ha hw=>⟨rfl,ha.sub hf,hw⟩
theorem XC.rangeFunc {α ι : Type} {gop : Operand} {ps : Array Tmp} {assign body : Code} {gf : FuncId} {lb : List Value} {encs : α → List Value} {xs : List α} {g0 : PH} (G : ι → PH) (S : ι → Own) (J : List α → ι → Prop) (i0 : ι) (sx0 : Own) (fa : α → Fr) (fb : List α → α → ι → Fr)
  (hro : M.ro = none) (hg : ev f gop = some (.func (.func gf) #[] lb.toArray)) (eg : ∀ args w,(callFunc gf args).run P w = .ok (.enter gf args) w) (hps : ∀ x,(encs x).length = ps.size)
  (hG : G i0 = g) (hS : S i0 ++ sx0 = s) (hseq : Gives P E gf lb encs xs g0) (hmono : ∀ pre i,J pre i → Le g0 (G i)) (h0 : J [] i0)
  (hfa : ∀ x a,Ok N f (bare a) → Ok N (fa x) { tmps:=(ps.zip (encs x).toArray).foldl (fun t (p,v)=>t.setIfInBounds p v) a.tmps,defers:=[] })
  (hassign : ∀ l pre x i sx,J pre i → XC P ⟨some l,[]⟩ N E assign (AssignEnd (N:=N) E (G i) (S i ++ sx) (fb pre x i)) (fa x) (G i) (S i ++ sx))
  (hbody : ∀ l pre x suf i sx,xs = pre ++ x :: suf → J pre i → XC P ⟨some l,[]⟩ N E body (RoundEnd E G S J pre x sx) (fb pre x i) (G i) (S i ++ sx))
  (hdone : ∀ D j,J xs j → XT ⟨none,⟨.collected D,#[]⟩ :: M.ds⟩ N E Q .normal f (G j) (pt D (.deferred (some [])) :: (S j ++ sx0))) : XC P M N E (.rangeFunc gop ps assign body) Q f g s:=by
 subst hG hS
 intro a w ha hw
 rw [hro]
 refine wpIn_rangeFunc ?_
 intro fn _
 obtain ⟨rec,hrec⟩ : ∃ rec : LoopState → Option Code → Loop,rec = fun st pe=>{ state:=st,pending:=pe,fn,tmps:=a.tmps,params:=ps,assign,body,defers:=w.heap.size }:=⟨_,rfl⟩
 obtain ⟨L,hL⟩ : ∃ L,L = w.heap.size + 1:=⟨_,rfl⟩
 obtain ⟨D,hD⟩ : ∃ D,D = w.heap.size:=⟨_,rfl⟩
 obtain ⟨W1,hW1⟩ : ∃ W1,(w.alloc (.deferred (some []))).alloc (.loop (rec .ready none)) = W1:=⟨_,rfl⟩
 have hA : At E (G i0) (pt L (.loop (rec .ready none)) :: pt D (.deferred (some [])) :: (S i0 ++ sx0)) W1:=by
  rw [← hW1,hL,hD]
  have h1 : At E (G i0) (pt w.heap.size (.deferred (some [])) :: (S i0 ++ sx0)) (w.alloc (.deferred (some []))):=hw.alloc (e:=pt w.heap.size (.deferred (some []))) rfl rfl
  have h2:=h1.alloc (e:=pt (w.alloc (.deferred (some []))).heap.size (.loop (rec .ready none))) rfl rfl
  rw [World.size_alloc] at h2
  exact h2
 obtain ⟨S2,hS2⟩ : ∃ S2 : ι → Own,S2 = fun i=>S i ++ (pt L (.loop (rec .ready none)) :: pt D (.deferred (some [])) :: sx0):=⟨_,rfl⟩
 have hA2 : At E (G i0) (S2 i0 ++ []) W1:=by
  rw [hS2,List.append_nil]
  dsimp only
  refine hA.perm ?_
  have h1 : (pt L (.loop (rec .ready none)) :: pt D (.deferred (some [])) :: (S i0 ++ sx0)) = [pt L (.loop (rec .ready none)),pt D (.deferred (some []))] ++ (S i0 ++ sx0):=rfl
  have h2 : S i0 ++ (pt L (.loop (rec .ready none)) :: pt D (.deferred (some [])) :: sx0) = S i0 ++ ([pt L (.loop (rec .ready none)),pt D (.deferred (some []))] ++ sx0):=rfl
  rw [h1,h2,← List.append_assoc,← List.append_assoc]
  exact List.perm_append_comm.append_right _
 refine ⟨L,[{ target:=.collected D,args:=#[] }],W1,{ target:=.fn (.func gf) lb.toArray,args:=#[.func (.yield L) #[] #[]] },W1,gf,(.func (.yield L) #[] #[] :: lb).toArray,W1,?_,?_,fun _ _=>trivial,?_,fun h=>(by cases h),?_⟩
 ·rw [← hW1,hrec,hL,hD]; exact run_enterLoop_outer _ _ _ _ _
 ·have h1 : a.eval gop = .func (.func gf) #[] lb.toArray:=ha.ev hg
  simp only [resolve,h1]
  simp [go_sem]
 ·have : (#[.func (.yield L) #[] #[]] ++ lb.toArray : Array Value) = (.func (.yield L) #[] #[] :: lb).toArray:=by simp
  simp [invoke,go_sem,eg]
 ·refine (callsIn_wide (n:=0 - 1)).2 ((hseq L ι G S2 J i0 h0 hmono ?_ [] W1 hA2).mono ?_)
  ·intro pre x suf i sx hxs hJ W hW
   rw [hS2] at hW
   simp only [List.append_assoc,List.cons_append] at hW
   have hlen : (S i).length = (S i).length:=rfl
   have gl : ∀ (i : ι) (u u' : Ent) (r : Own),(S i ++ u :: u' :: r)[(S i).length]? = some u:=fun i u u' r=>by simp
   have hl:=hW.here (gl i _ _ _)
   have hy:=run_yield (P:=P) (args:=(encs x).toArray) hl (by rw [hrec]; simpa using hps x)
   rw [hrec] at hy
   refine ⟨fn,_,assign,body,hy,roundIn_of_wpIn trivial ?_⟩
   refine Code.wpIn_mono (fun e a1 w1 h1=>?_) (hassign L pre x i _ hJ { tmps:=(ps.zip (encs x).toArray).foldl (fun t (p,v)=>t.setIfInBounds p v) a.tmps,defers:=[] } W ⟨I,hfa x a ha.2⟩ hW)
   obtain ⟨rfl,ha1,hw1⟩:=h1
   have hl1:=hw1.here (gl i _ _ _)
   refine ⟨_,run_beginRound hl1 (by rw [hrec]),?_⟩
   have hset : ∀ (i : ι) (u u' v : Ent) (r : Own),(S i ++ u :: u' :: r).set (S i).length v = S i ++ v :: u' :: r:=fun i u u' v r=>by simp
   have hw2:=hw1.obj (o':=.loop { rec .ready none with state:=.busy }) (gl i _ _ _)
   rw [hset] at hw2
   refine Code.wpIn_mono (fun e a3 w3 h3=>?_) (hbody L pre x suf i _ hxs hJ a1 _ ha1 hw2)
   obtain ⟨rfl,j,hw3,hJ3⟩:=h3
   have hl3:=hw3.here (gl j _ _ _)
   have he:=run_endRound (P:=P) none hl3
   have hw4:=hw3.obj (o':=.loop { (rec .ready none) with state:=.ready,pending:=none }) (gl j _ _ _)
   rw [hset] at hw4
   refine ⟨_,_,he,.bool true,G j,S2 j ++ sx,I,?_,I,j,hJ3,I,I⟩
   rw [hS2]
   simp only [List.append_assoc,List.cons_append]
   rw [hrec] at hw4 ⊢
   exact hw4
  ·rintro e W2 ⟨v,g',s',rfl,hat,j,hJ,rfl,rfl⟩
   rw [hS2,List.append_nil] at hat
   have gl : ∀ (i : ι) (u u' : Ent) (r : Own),(S i ++ u :: u' :: r)[(S i).length]? = some u:=fun i u u' r=>by simp
   have hl:=hat.here (gl j _ _ _)
   have he:=run_endLoop (P:=P) hl (by rw [hrec]; simp)
   have h2:=hat.obj (o':=.loop { (rec .ready none) with state:=.exhausted }) (gl j _ _ _)
   have hset : ∀ (i : ι) (u u' v : Ent) (r : Own),(S i ++ u :: u' :: r).set (S i).length v = S i ++ v :: u' :: r:=fun i u u' v r=>by simp
   rw [hset] at h2
   have hpn : (rec .ready none).pending = none:=by rw [hrec]
   refine ⟨none,_,he.trans (congrArg (fun p=>Result.ok p _) hpn),?_⟩
   refine hdone D j hJ _ _ ⟨by rw [← ha.1]; rfl,ha.2⟩ ?_
   have h3:=(h2.sublist (s':=S j ++ pt D (.deferred (some [])) :: sx0) (by exact (List.Sublist.refl _).append (List.sublist_cons_self _ _))).perm List.perm_middle
   exact h3
end
end Go.Sy
