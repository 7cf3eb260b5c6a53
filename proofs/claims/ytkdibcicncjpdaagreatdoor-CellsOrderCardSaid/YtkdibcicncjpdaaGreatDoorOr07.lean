/- Srt Sim Cpo San1 San Ref1 Ref2 -/
import Derived.Shelf.SlIterI.Sorted
import Derived.Test.YtkdibcicncjpdaaGreatDoorOr04
import Derived.Test.YtkdibcicncjpdaaGreatDoorOr03
import Derived.Test.YtkdibcicncjpdaaGreatDoorOr06
import Derived.Test.YtkdibcicncjpdaaGreatDoorOr02
set_option linter.unusedSimpArgs false
set_option linter.unusedVariables false
namespace Go.Proofs.YtkdibcicncjpdaaGreatDoor
open _root_.Go.Proofs.Tryz _root_.Go.Proofs.YtkdibcicncjpdaaGreatDoor.Tryz
open Go Go.Sy Go.Pl Go.Proofs Go.Shelf Go.Sort
set_option maxRecDepth 100000
def Tryz.keysA_ren : Ren :=
 {
  f:=fun x =>
   match x with
   | 7=>85
   | 10=>139
   | n=>n,
  t:=fun x =>
   match x with
   | 23=>84
   | 26=>3
   | 3=>4
   | 28=>108
   | 0=>0
   | 27=>107
   | 33=>140
   | 4=>4
   | n=>n,
  g:=fun x =>
   have n:=x;
   n }
theorem Tryz.keysA : SlLaysZI.n7 Tryz.prog Tryz.keysA_ren :=
  {
  mixed:=Eq.refl true,
  f7 :=
   Exists.intro "maps.Keys[map[int]bool,int,bool]"
    ⟨of_decide_eq_true (id (Eq.refl true)),
     Eq.trans func85
      (congrArg some
       (by kernel_rfl))⟩,
  f10 :=
   Exists.intro "maps.Keys[map[int]bool,int,bool]$1"
    ⟨of_decide_eq_true (id (Eq.refl true)),
     Eq.trans func139
      (congrArg some
       (by kernel_rfl))⟩,
  t0:=underlying0,a0:=isAgg0,z0:=sizeOf0,v0:=zeroValue0,t4:=underlying4,
  a4:=isAgg4,z4:=sizeOf4,v4:=zeroValue4,t23:=underlying84,a23:=isAgg84,
  z23:=sizeOf84,v23:=zeroValue84,t26:=uT3,a26:=iT3,z26:=zT3,
  v26:=zeroValue3,t27:=underlying107,a27:=isAgg107,z27:=sizeOf107,
  v27:=zeroValue107,t28:=underlying108,a28:=isAgg108,z28:=sizeOf108,
  v28:=zeroValue108,t33:=underlying140,a33:=isAgg140,z33:=sizeOf140,
  v33:=zeroValue140 }
def Tryz.sortedA_ren : Ren :=
 {
  f:=fun x =>
   match x with
   | 6=>84
   | 8=>138
   | 9=>87
   | 11=>158
   | 13=>141
   | 12=>140
   | 23=>167
   | 24=>168
   | 14=>159
   | 15=>160
   | 16=>161
   | 17=>162
   | 18=>163
   | 19=>164
   | 20=>125
   | 21=>165
   | 22=>166
   | 25=>188
   | 26=>189
   | 27=>190
   | 28=>191
   | 29=>192
   | 30=>150
   | 31=>202
   | n=>n,
  t:=fun x =>
   match x with
   | 26=>3
   | 28=>108
   | 24=>27
   | 0=>0
   | 3=>3
   | 37=>139
   | 48=>176
   | 50=>158
   | 4=>4
   | 40=>170
   | 39=>169
   | 45=>95
   | 5=>5
   | 9=>9
   | 51=>197
   | 55=>201
   | 57=>209
   | 58=>210
   | 33=>140
   | n=>n,
  g:=fun x =>
   have n:=x;
   n }
theorem Tryz.sortedA : SlLaysZI.n6 Tryz.prog Tryz.sortedA_ren :=
  {
  mixed:=Eq.refl true,
  f6 :=
   Exists.intro "slices.Sorted[int]"
    ⟨of_decide_eq_true (id (Eq.refl true)),
     Eq.trans func84
      (congrArg some
       (by kernel_rfl))⟩,
  f8 :=
   Exists.intro "slices.Collect[int]"
    ⟨of_decide_eq_true (id (Eq.refl true)),
     Eq.trans func138
      (congrArg some
       (by kernel_rfl))⟩,
  f11 :=
   Exists.intro "slices.AppendSeq[[]int,int]"
    ⟨of_decide_eq_true (id (Eq.refl true)),
     Eq.trans func158
      (congrArg some
       (by kernel_rfl))⟩,
  t0:=underlying0,a0:=isAgg0,z0:=sizeOf0,v0:=zeroValue0,t24:=uT27,
  a24:=iT27,z24:=zT27,v24:=zeroValue27,t26:=uT3,a26:=iT3,
  z26:=zT3,v26:=zeroValue3,t28:=underlying108,a28:=isAgg108,z28:=sizeOf108,
  v28:=zeroValue108,i26:=Eq.refl (some (some (Value.int IntKind.i64 0),1,8)) }
theorem Tryz.sortsA (m : Nat) : AnyZI.SortsIn Tryz.prog Tryz.sortedA_ren Fence.wide m :=
 ⟨fun blk off cap ss W hH hblk hsz=>callsIn_wide.2 (Any.slices_Sort_int lays189 blk off cap ss W hH hblk hsz),
  fun p cap W=>callsIn_wide.2 (Any.slices_Sort_int_none lays189 p cap W)⟩
theorem keys_spec (E : World) (g : PH) (s : Own) (m : Nat) :
  Ctr Tryz.prog E 85 #[.map (some m)] g s (fun r g' s'=>s = s' ∧ Le g g' ∧ ∃ b,r = .func (.func 139) #[] #[pp b 0] ∧ g' b = some (.cells #[.map (some m)] 84 (0,0))):=by
 refine Ctr.of (args:=[.map (some m)]) func85 I ntmps85 (bE I) ?_
 refine SC.sR (SL.bx (bO I) fun b1=>?_)
 refine lA I (SL.nT (SC.sR (lU (SU.mkFunc I) (lA I (SL.nT (rE (ST.freeze fun g1 h1 hb=>?_)))))))
 exact ST.ret1 (.inl I) results85 I ⟨I,h1,_,I,hb⟩
def inI64 (x : Int) : Prop:=-9223372036854775808 ≤ x ∧ x ≤ 9223372036854775807
theorem wf_i64 {x : Int} (h : inI64 x) : (Lit.int .i64 x).wf = true:=by
 unfold inI64 at h
 simp [Lit.wf,IntKind.min,IntKind.max,IntKind.bits,IntKind.signed]
 omega
theorem sorted_spec (E : World) (hE : E.drawn = 0) (g : PH) (s : Own) (b m : Nat) (l : List (Int × Value)) (hb : g b = some (.cells #[.map (some m)] 84 (0,0))) (hm : Mp g m l) (hl : l.length < 1099511627776) (hw : ∀ p ∈ l,inI64 p.1) :
  Ctr Tryz.prog E 84 #[.func (.func 139) #[] #[pp b 0]] g s (fun r g' s'=>s = s' ∧ Le g g' ∧ Ints g' r (sortI (l.map Prod.fst))):=by
 intro w hat
 obtain ⟨es,clk,hes,hmi,hst⟩:=hm
 have hesl : es.toList.length = l.length:=by have:=congrArg List.length hmi; simpa using this
 have hesz : es.size = l.length:=by simpa using hesl
 have hreads : ∀ x ∈ es.toList,∃ y,WideElems.rd (H:=Unit) Tryz.prog 3 (fun _=>some (.lit (.bool true),[])) x = some y ∧ ∃ p ∈ l,y.1 = .int .i64 p.1:=fun x hx=>by
  have h1 : entV x ∈ es.toList.map entV:=List.mem_map.2 ⟨x,hx,rfl⟩
  rw [hmi] at h1
  obtain ⟨p,hp,he⟩:=List.mem_map.1 h1
  have hk : x.key = vi p.1:=(congrArg Prod.fst he).symm
  have hkey : keyOf Tryz.prog 3 x.key = some (.int .i64 p.1):=by
   rw [hk]; exact Maps.keyOf_int_mk uT3 (wf_i64 (hw p hp))
  exact ⟨(.int .i64 p.1,.lit (.bool true)),by simp [WideElems.rd,hkey],p,hp,I⟩
 have hown : w.ownsMap Tryz.prog 3 (fun _=>some (.lit (.bool true),[])) m l.length (.map ((es.toList.map (WideElems.rg (H:=Unit) Tryz.prog 3 (fun _=>some (.lit (.bool true),[])))).foldr DataW.insert [])) :=
  ⟨es,clk,hat.known _ _ hes,⟨by rw [hesz]; unfold maxLen; omega,hst,fun x hx=>(hreads x hx).imp fun _ h=>h.1⟩,oM,rfl⟩
 have hkeys : (l.map Prod.fst).Perm (intKeys (.map ((es.toList.map (WideElems.rg (H:=Unit) Tryz.prog 3 (fun _=>some (.lit (.bool true),[])))).foldr DataW.insert []))):=by
  have h1 : (es.toList.map (WideElems.rg (H:=Unit) Tryz.prog 3 (fun _=>some (.lit (.bool true),[])))).map (fun p=>Go.intOf p.1) = l.map Prod.fst:=by
   have h2 : l.map Prod.fst = (es.toList.map entV).map (fun q=>(unV q).1):=by rw [hmi,List.map_map]; rfl
   rw [h2,List.map_map,List.map_map]
   refine List.map_congr_left fun x hx=>?_
   have h3 : entV x ∈ es.toList.map entV:=List.mem_map.2 ⟨x,hx,rfl⟩
   rw [hmi] at h3
   obtain ⟨p,hp,he⟩:=List.mem_map.1 h3
   have hk : x.key = vi p.1:=(congrArg Prod.fst he).symm
   have hkey : keyOf Tryz.prog 3 x.key = some (.int .i64 p.1):=by
    rw [hk]; exact Maps.keyOf_int_mk uT3 (wf_i64 (hw p hp))
   simp [WideElems.rg,WideElems.rd,hkey,hk ▸ hkey,Go.intOf,entV,unV,hk]
  rw [← h1]
  exact ((WideShapes.sorted_perm _).map _).symm
 have hsize : Maps.size (.map ((es.toList.map (WideElems.rg (H:=Unit) Tryz.prog 3 (fun _=>some (.lit (.bool true),[])))).foldr DataW.insert [])) = l.length:=by
  have:=hkeys.length_eq
  simpa [intKeys,Maps.size] using this.symm
 have hseq:=AnyZI.keys_gives (ρ:=Tryz.keysA_ren) { Tryz.keysA with } Fence.wide 2 trivial rfl oM b m l.length _ (R:=fun _=>some (.lit (.bool true),[])) w (hat.lt hb) (by simp [World.cell?,hat.known _ _ hb]) hown
 have cS:=AnyZI.sorted_in Tryz.sortedA Fence.wide 5 trivial trivial trivial trivial rfl oM (Tryz.sortsA _) (enters_of func87 (by kernel_rfl) rfl) 139 #[.pointer (some ⟨b,0,none⟩)] trivial (enters_of func139 (by kernel_rfl) rfl) _ _ (by rw [hsize]; unfold maxLen; omega) (by rw [hsize]; omega) w hseq
 refine ((callsIn_wide (n:=5)).1 cS).mono ?_
 rintro e w' ⟨v,ss,rfl,hss,hrow,hnil,hbel⟩
 have hsrt : ss.mergeSort (fun x y=>decide (x ≤ y)) = sortI (l.map Prod.fst):=mergeSort_of_perm_i (hss.trans hkeys.symm)
 rw [hsrt] at hrow
 have hat2 : At E g s w':=by
  refine ⟨hbel.os.trans hat.os,⟨hbel.tape.trans hat.tape.1,by rw [hE]; exact Nat.zero_le _⟩,hbel.output.trans hat.output,fun k o hk=>?_,fun x hx=>?_,fun x hx k hk=>⟨(hat.fresh x hx k hk).1,Nat.lt_of_lt_of_le (hat.fresh x hx k hk).2 hbel.size⟩,hat.apart⟩
  ·rw [hbel.block k (hat.lt hk)]; exact hat.known k o hk
  ·have h1:=hat.own x hx
   cases hbk : x.blk with
   | none=>simpa [hbk] using h1
   | some k =>
    simp only [hbk,Option.bind_some] at h1 ⊢
    rw [hbel.block k (hat.fresh x hx k hbk).2]
    exact h1
 rcases hrow.2 with ⟨rfl,h0⟩ | ⟨gb,cap,cur,rfl,hbase,hgb,r1,r2,r3,r4⟩
 ·have hss0 : ss = []:=List.eq_nil_of_length_eq_zero h0
  have hl0 : l.map Prod.fst = []:=by
   have:=(hss.trans hkeys.symm).length_eq
   rw [hss0] at this
   exact List.eq_nil_of_length_eq_zero (by simpa using this.symm)
  refine ⟨_,g,s,I,hat2,I,Le.refl g,?_⟩
  rw [hl0]
  have : sortI [] = []:=by simp [sortI]
  rw [this]
  exact Sl.nil g 1
 ·have hfresh : g gb = none:=by
   cases h : g gb with
   | none=>rfl
   | some o=>have:=hat.lt h; omega
  refine ⟨_,upd g gb (.cells cur 3 (0,0)),s,I,⟨hat2.os,hat2.tape,hat2.output,fun k o hk=>?_,hat2.own,fun x hx k hk=>⟨?_,(hat2.fresh x hx k hk).2⟩,hat2.apart⟩,I,le_upd hfresh,?_⟩
  ·unfold upd at hk
   split at hk
   ·rename_i e1; subst e1; injection hk with hk; subst hk; exact hgb
   ·exact hat2.known k o hk
  ·have h1:=hat.fresh x hx k hk
   have hne : k ≠ gb:=oM
   simp only [upd,hne,if_false]
   exact h1.1
  ·have hlen : (sortI (l.map Prod.fst)).length = ss.length:=by rw [sortI_length]; exact (hss.trans hkeys.symm).length_eq.symm
   refine ⟨some ⟨gb,0,none⟩,cap,by rw [hlen],⟨by rw [encInt.length],oM⟩,fun _=>⟨gb,0,cur,_,(0,0),I,upd_self _ _ _,fun j x hj=>?_⟩⟩
   rw [flat_ints] at hj
   have hj2 : (cur.toList.take (ss.length * 1))[j]? = some x:=by rw [r4]; exact hj
   rw [List.getElem?_take] at hj2
   split at hj2
   ·simpa using hj2
   ·cases hj2
theorem reachF_mem (tl : List Cl) : ∀ (n : Nat) (id : Int) (vis : List Int) (x : Int),x ∈ reachF tl n id vis → x ∈ vis ∨ ∃ c ∈ tl,c.id = x
 | 0,_,_,_,h=>.inl h
 | n + 1,id,vis,x,h=>by
  unfold reachF at h
  split at h
  ·exact .inl h
  ·rename_i c hc
   split at h
   ·exact .inl h
   ·have key : ∀ (l : List Side) (v : List Int),x ∈ l.foldl (fun v y=>reachF tl n y.cell v) v → x ∈ v ∨ ∃ c ∈ tl,c.id = x:=by
     intro l
     induction l with
     | nil=>intro v hv; exact .inl hv
     | cons y r ih =>
      intro v hv
      rcases ih _ hv with h1 | h1
      ·exact reachF_mem tl n y.cell v x h1
      ·exact .inr h1
    rcases key _ _ h with h1 | h1
    ·rcases List.mem_append.1 h1 with h2 | h2
     ·exact .inl h2
     ·simp at h2
      obtain ⟨h3,h4⟩:=findT_mem hc
      exact .inr ⟨c,h3,by rw [h4,h2]⟩
    ·exact .inr h1
theorem reachF_nodup (tl : List Cl) : ∀ (n : Nat) (id : Int) (vis : List Int),vis.Nodup → (reachF tl n id vis).Nodup
 | 0,_,_,h=>h
 | n + 1,id,vis,h=>by
  unfold reachF
  split
  ·exact h
  ·split
   ·exact h
   ·rename_i hc
    have key : ∀ (l : List Side) (v : List Int),v.Nodup → (l.foldl (fun v y=>reachF tl n y.cell v) v).Nodup:=by
     intro l
     induction l with
     | nil=>intro v hv; exact hv
     | cons y r ih=>intro v hv; exact ih _ (reachF_nodup tl n y.cell v hv)
    refine key _ _ (List.nodup_append.2 ⟨h,by simp,fun a ha b hb=>?_⟩)
    simp at hb hc
    rw [hb]
    exact fun e=>hc (e ▸ ha)
theorem closF_mem {tl : List Cl} {ids : List Int} {x : Int} (h : x ∈ closF tl ids) : ∃ c ∈ tl,c.id = x:=by
 have key : ∀ (l : List Int) (v : List Int),x ∈ l.foldl (fun v id=>reachF tl (tl.length + 1) id v) v → x ∈ v ∨ ∃ c ∈ tl,c.id = x:=by
  intro l
  induction l with
  | nil=>intro v hv; exact .inl hv
  | cons y r ih =>
   intro v hv
   rcases ih _ hv with h1 | h1
   ·exact reachF_mem tl _ y v x h1
   ·exact .inr h1
 exact (key _ _ h).resolve_left (by simp)
theorem closF_nodup (tl : List Cl) (ids : List Int) : (closF tl ids).Nodup:=by
 have key : ∀ (l : List Int) (v : List Int),v.Nodup → (l.foldl (fun v id=>reachF tl (tl.length + 1) id v) v).Nodup:=by
  intro l
  induction l with
  | nil=>intro v hv; exact hv
  | cons y r ih=>intro v hv; exact ih _ (reachF_nodup tl _ y v hv)
 exact key _ _ (by simp)
theorem nodup_le {α : Type} [DecidableEq α] : ∀ {l m : List α},l.Nodup → (∀ x ∈ l,x ∈ m) → l.length ≤ m.length
 | [],_,_,_=>Nat.zero_le _
 | x :: l,m,hn,hs=>by
  obtain ⟨h1,h2⟩:=List.nodup_cons.1 hn
  have hx : x ∈ m:=hs x (by simp)
  have h3:=nodup_le (m:=m.erase x) h2 (fun y hy=>by
   have hne : y ≠ x:=fun e=>h1 (e ▸ hy)
   exact (List.mem_erase_of_ne hne).2 (hs y (by simp [hy])))
  have h4:=List.length_erase_of_mem hx
  have h5:=List.length_pos_of_mem hx
  simp only [List.length_cons]
  omega
theorem closF_length (tl : List Cl) (ids : List Int) : (closF tl ids).length ≤ tl.length:=by
 have:=nodup_le (closF_nodup tl ids) (m:=tl.map Cl.id) (fun x hx=>by obtain ⟨c,hc,e⟩:=closF_mem hx; exact List.mem_map.2 ⟨c,hc,e⟩)
 simpa using this
theorem tabC_id {l : List Cl} {c : Cl} (h : c ∈ tabC l) : ∃ d ∈ l,d.id = c.id:=by
 have h1:=tabC_mem h
 unfold canonC at h1
 obtain ⟨d,hd,rfl⟩:=List.mem_map.1 h1
 exact ⟨d,(sortBy_mem l d).1 hd,I⟩
def closureC (l : List Cl) (ids : List Int) : List Int:=sortI (closF (tabC l) ids)
theorem closureTop (E : World) (hE : E.drawn = 0) (g : PH) (s : Own) (v iv : Value) (l : List Cl) (ids : List Int) (hv : Cells g v l) (hf : Fits l) (hi : Ints g iv ids) (hl : ids.length < 1099511627776) (hw : ∀ c ∈ l,inI64 c.id) :
  Ctr Tryz.prog E 30 #[.agg #[v],iv] g s (fun r g' s'=>s = s' ∧ Le g g' ∧ Ints g' r (closureC l ids)):=by
 have hft:=tabC_fits hf
 have hcl:=closF_length (tabC l) ids
 have hfl:=hft.1
 refine Ctr.of (args:=[.agg #[v],iv]) func30 I ntmps30 (bE I) ?_
 refine SC.sR (SL.bx (bO I) fun b2=>?_)
 refine lA I (SL.nT (SC.sR (lK (qV 0 iT31 zT31 I I I) (lW (cL kT56 I (of_spec E g _ v l hv hf)) ?_))))
 rintro tv g1 _ ⟨rfl,hle,ht⟩
 refine lM I (lW (cL call65 I (closure_spec E g1 _ _ _ (tabC l) ids ht hft (hi.mono hle) hl)) ?_)
 rintro _ g2 _ ⟨m,rfl,hle2,rfl⟩
 refine SL.freezeMap fun g3 hle3 hm=>?_
 refine lW (cL call85 I (keys_spec E g3 _ m)) ?_
 rintro _ g4 _ ⟨rfl,hle4,b,rfl,hb⟩
 refine lW (cL call84 rfl (sorted_spec E hE g4 _ b m (setP (closF (tabC l) ids)) hb (hm.mono hle4) (by simp only [setP,List.length_map]; omega) (fun p hp=>by obtain ⟨x,hx,rfl⟩:=List.mem_map.1 hp; obtain ⟨c,hc,rfl⟩:=closF_mem hx; obtain ⟨d,hd,e⟩:=tabC_id hc; rw [← e]; exact hw d hd))) ?_
 rintro r g5 _ ⟨rfl,hle5,hr⟩
 refine lA I (SL.nT (rE (dR (s':=s) (.cons _ (.refl _)) ?_)))
 exact ST.ret1 (.inl I) results30 I ⟨I,hle.trans (hle2.trans (hle3.trans (hle4.trans hle5))),by unfold closureC; simpa [setP,Function.comp_def] using hr⟩
open Go Go.Sy Go.Pl Go.Proofs
theorem lv_of {g : PH} : ∀ {ls : List (List Int)} {rs : List Sv},All2 (ListR g) ls rs → (∀ x ∈ ls,x.length < 1099511627776) → ∃ L : List (LV g),L.map LV.l = ls ∧ L.map LV.sv = rs
 | [],[],_,_=>⟨[],rfl,rfl⟩
 | x :: ls,r :: rs,h,hl=>by
  obtain ⟨L,h1,h2⟩:=lv_of h.2 (fun y hy=>hl y (by simp [hy]))
  exact ⟨⟨r,x,h.1,hl x (by simp)⟩ :: L,by simp [h1],by simp [h2]⟩
 | [],_ :: _,h,_=>h.elim
 | _ :: _,[],h,_=>h.elim
theorem lv_all {g : PH} : ∀ (L : List (LV g)),All2 (ListR g) (L.map LV.l) (L.map LV.sv)
 | []=>trivial
 | x :: L=>⟨x.h,lv_all L⟩
theorem lv_flat {g : PH} : ∀ (L : List (LV g)),L.flatMap (encLV g).enc = (L.map LV.sv).flatMap encSv.enc
 | []=>rfl
 | x :: L=>by simp only [List.flatMap_cons,List.map_cons,lv_flat L]; rfl
theorem lv_row {g : PH} (T : TypeId) (v : Value) (L : List (LV g)) : rowA (encLV g) T v L = rowA encSv T v (L.map LV.sv):=by
 simp only [rowA,lv_flat,List.length_map]
def eqL (a b : List Int) : Bool:=decide (a = b)
theorem uniqGo_map {α β : Type} (f : α → β) (eq : α → α → Bool) (eq' : β → β → Bool) (h : ∀ a b,eq a b = eq' (f a) (f b)) : ∀ (x : α) (l : List α),(uniqGo eq x l).map f = uniqGo eq' (f x) (l.map f)
 | _,[]=>rfl
 | x,y :: r=>by
  simp only [uniqGo,List.map_cons,h]
  split
  ·exact uniqGo_map f eq eq' h y r
  ·rw [List.map_cons,uniqGo_map f eq eq' h y r]
theorem uniq_map {α β : Type} (f : α → β) (eq : α → α → Bool) (eq' : β → β → Bool) (h : ∀ a b,eq a b = eq' (f a) (f b)) (l : List α) : (uniq eq l).map f = uniq eq' (l.map f):=by
 cases l with
 | nil=>rfl
 | cons x r=>simp only [uniq,List.map_cons,uniqGo_map f eq eq' h]
theorem uniqGo_sub {α : Type} (eq : α → α → Bool) : ∀ (x : α) (l : List α),(uniqGo eq x l).Sublist l
 | _,[]=>.slnil
 | x,y :: r=>by
  simp only [uniqGo]
  split
  ·exact (uniqGo_sub eq y r).cons y
  ·exact (uniqGo_sub eq y r).cons_cons y
theorem uniq_sub {α : Type} (eq : α → α → Bool) (l : List α) : (uniq eq l).Sublist l:=by
 cases l with
 | nil=>exact .slnil
 | cons x r=>exact (uniqGo_sub eq x r).cons_cons x
def setC (s : List Int) : List Int:=uniq (fun a b : Int=>decide (a = b)) (sortI s)
def badSet : List Int → Bool
 | []=>true
 | a :: r=>decide (a < 0) || decide (((a :: r).length : Int) > 9)
def addSets (all : List (List Int)) (t : List Int) : List (List Int):=uniq eqL (sortL (all ++ subsetsC t))
def simpAll : List (List Int) → List (List Int) → Option (List (List Int))
 | all,[]=>some all
 | all,s :: r=>if badSet (setC s) then simpAll all r else if ((addSets all (setC s)).length : Int) > 4000 then none else simpAll (addSets all (setC s)) r
def sideAt (all : List (List Int)) (s : List Int) (k : Nat) : List Side:=if 0 < (s.eraseIdx k).length then [⟨lbL all (s.eraseIdx k) + 1,signC k⟩] else []
def simpSides (all : List (List Int)) (s : List Int) (j : Nat) : List Side:=(List.range j).flatMap (sideAt all s)
def simpCell (all : List (List Int)) (p : List Int × Nat) : Cl:=⟨p.2 + 1,(p.1.length : Int) - 1,simpSides all p.1 p.1.length⟩
def simpCells (all : List (List Int)) : List Cl:=all.zipIdx.map (simpCell all)
def simpC (l : List (List Int)) : List Cl:=match simpAll [] l with
 | none=>[]
 | some all=>canonC (simpCells all)
theorem subsetsC_length (t : List Int) (h : t.length ≤ 9) : (subsetsC t).length ≤ 511:=by
 have:=pow_le t.length h
 simp [subsetsC]
 omega
theorem subsetsC_short {t : List Int} (h : t.length ≤ 9) : ∀ x ∈ subsetsC t,x.length ≤ 9:=fun x hx=>by
 obtain ⟨i,_,rfl⟩:=List.mem_map.1 hx
 exact Nat.le_trans (pickB_length _ _) h
theorem subsetsC_pos {t : List Int} (h : t ≠ []) : 0 < (subsetsC t).length:=by
 have h1 : 0 < t.length:=List.length_pos_iff.2 h
 have h2 : 2 ^ 1 ≤ 2 ^ t.length:=Nat.pow_le_pow_right dC h1
 simp [subsetsC]
 omega
theorem addSets_mem {all : List (List Int)} {t x : List Int} (h : x ∈ addSets all t) : x ∈ all ∨ x ∈ subsetsC t:=by
 have h1:=(uniq_sub eqL _).subset h
 have h2:=(sortL_perm _).subset h1
 exact List.mem_append.1 h2
theorem addSets_srt (all : List (List Int)) (t : List Int) : SrtL (addSets all t):=(sortL_srt _).sublist (uniq_sub eqL _)
theorem srt_mono {all : List (List Int)} (h : SrtL all) (t : List Int) : ∀ i j (hi : i < all.length) (hj : j < all.length),i < j → compareC all[j] t < 0 → compareC all[i] t < 0:=fun i j hi hj hij hlt=>by
 have h1:=List.pairwise_iff_getElem.1 h i j hi hj hij
 rcases compareC_cases all[i] all[j] with h2 | h2 | h2
 ·exact compareC_trans _ _ _ h2 hlt
 ·rw [h2]; exact hlt
 ·exact absurd h2 h1
theorem simpSides_succ (all : List (List Int)) (s : List Int) (j : Nat) : simpSides all s (j + 1) = simpSides all s j ++ sideAt all s j:=by
 simp [simpSides,List.range_succ]
theorem simpSides_length (all : List (List Int)) (s : List Int) (j : Nat) : (simpSides all s j).length ≤ j:=by
 induction j with
 | zero=>simp [simpSides]
 | succ j ih =>
  rw [simpSides_succ,List.length_append]
  have : (sideAt all s j).length ≤ 1:=by unfold sideAt; split <;> simp
  omega
theorem simpCells_length (all : List (List Int)) : (simpCells all).length = all.length:=by simp [simpCells]
theorem simpCells_get {all : List (List Int)} {k : Nat} (h : k < all.length) : (simpCells all)[k]? = some (simpCell all (all[k],k)):=by
 simp [simpCells,h]
theorem simpCells_fits {all : List (List Int)} (h : all.length ≤ 4000) (hs : ∀ x ∈ all,x.length ≤ 9) : Fits (simpCells all):=by
 refine ⟨by rw [simpCells_length]; omega,fun c hc=>?_⟩
 obtain ⟨p,hp,rfl⟩:=List.mem_map.1 hc
 have h1 : p.1 ∈ all:=by
  have:=List.mem_map_of_mem (f:=Prod.fst) hp
  simpa using this
 have h2:=hs _ h1
 have h3:=simpSides_length all p.1 p.1.length
 show (simpSides all p.1 p.1.length).length < _
 omega
theorem lbL_le (ls : List (List Int)) (t : List Int) : lbL ls t ≤ ls.length:=List.length_filter_le _ _
def svOf (v : Value) : Sv:=match v with
 | .slice p n c=>⟨p,n,c⟩
 | _=>⟨none,0,0⟩
theorem simplicial_spec (E : World) (g : PH) (s : Own) (v : Value) (ls : List (List Int)) (hv : Lists g v ls) (hn : ls.length < 1099511627776) (hl : ∀ x ∈ ls,x.length < 17592186044416) :
  Ctr Tryz.prog E 31 #[v] g s (fun r g' s'=>s = s' ∧ Le g g' ∧ ∃ u,r = .agg #[u] ∧ Cells g' u (simpC ls)):=by
 obtain ⟨rs0,hrs0,hall0⟩:=hv
 have hlen0:=hall0.length
 obtain ⟨p,c,rfl⟩:=SlA.form hrs0
 refine Ctr.of (args:=[.slice p rs0.length c]) func31 I ntmps31 (bE I) ?_
 refine SC.sR (SL.bx (aL zeroValue31) fun b2=>?_)
 refine SL.nT (SC.sR (lA I (SL.nT (sQ (SC.sR (lM I (lU (eN uT22 I) (lM I (SL.nT (bK (SC.nilRow 27 1 ?_)))))))))))
 refine oP (ι:=PH × Value × List Sv × List (List Int) × Nat) (fun i=>[(0,.slice p rs0.length c),(2,pp b2 0),(3,i.2.1),(14,.slice p rs0.length c),(15,vi rs0.length),(16,vi i.2.2.2.2)]) (fun i=>i.1)
  (fun i=>rowA encSv 27 i.2.1 i.2.2.1 :: pt b2 (.cells #[.slice none 0 0] 31 (0,0)) :: s)
  (fun i=>Le g i.1 ∧ i.2.2.2.2 ≤ rs0.length ∧ All2 (ListR i.1) i.2.2.2.1 i.2.2.1 ∧ (i.2.2.2.1.length ≤ 4000 ∧ ∀ x ∈ i.2.2.2.1,x.length ≤ 9) ∧ SrtL i.2.2.2.1 ∧ simpAll [] ls = simpAll i.2.2.2.1 (ls.drop i.2.2.2.2)) (fun i=>rs0.length - i.2.2.2.2)
  (g,.slice none 0 0,[],[],0) sB rfl rfl ⟨Le.refl g,Nat.zero_le _,trivial,⟨Nat.zero_le _,by simp⟩,List.Pairwise.nil,rfl⟩ ?_
 rintro ⟨g1,av,rs,all,k⟩ ⟨hle,hk,hall,⟨hal,has⟩,hsrt,hsa⟩
 dsimp only at hle hk hall hal has hsrt hsa ⊢
 have hrl:=hall.length
 refine SC.sR (lU (lS I I) (SL.nT (sQ ?_)))
 refine iP I (fun hlt=>?_) (fun hlt=>?_)
 ·have hkl : k < ls.length:=oM
  have hkr : k < rs0.length:=oM
  have hR:=(hall0.get (gE hkl) (gE hkr)).mono hle
  have hxl:=hl _ (gM hkl)
  have hb1:=hrs0.based oM
  have hdrop : ls.drop k = ls[k] :: ls.drop (k + 1):=List.drop_eq_getElem_cons hkl
  rw [hdrop] at hsa
  generalize hx : ls[k] = x at *
  generalize hr : rs0[k] = r at *
  have hgr : rs0[((k : Nat) : Int).toNat]? = some r:=by rw [← hr]; exact gE hkr
  have hsl:=sortI_length x
  have hul:=uniq_length (fun a b : Int=>decide (a = b)) (sortI x)
  refine kP (tN (sQ (bK (SC.sR (lU (iA uT22 zT27 I I hb1 oM sL) (lK (eB iT27 I (hrs0.mono hle).rd hgr I) (lA I (SL.nT (SC.sR (lM I (lW (cL call86 I (cloneI E g1 _ _ x hR hxl)) ?_)))))))))))
  rintro v21 _ _ ⟨rfl,rfl⟩
  refine lA I (SL.nT (SC.sR (lM I (lW (cL call87 I (sortInts_spec E g1 _ v21 x 0 I hxl)) ?_))))
  rintro _ _ _ ⟨rfl,rfl⟩
  refine SL.nT (SC.sR (lM I (lW (cL call88 I (compactI E g1 _ v21 (sortI x) oM)) ?_)))
  rintro v25 _ _ ⟨rfl,rfl⟩
  refine lA I (SL.nT (sQ (fS fun g2 hle2 hs2=>?_)))
  have hset : Ints g2 v25 (setC x):=hs2
  have hsetl : (setC x).length < 17592186044416:=by unfold setC; omega
  obtain ⟨q2,d2,rfl⟩:=SlA.form hset
  have hcase : setC x = [] ∨ ∃ a t,setC x = a :: t:=by cases setC x with
   | nil=>exact .inl rfl
   | cons a t=>exact .inr ⟨a,t,rfl⟩
  have hall2:=hall.mono fun _ _=>ListR.mono hle2
  clear hs2
  generalize hT : setC x = T at *
  rcases hcase with hT0 | ⟨a,t,hTa⟩
  ·subst hT0
   have hbad : badSet (setC x) = true:=by rw [hT]; rfl
   refine SC.sR (lM I (lU (eN uT27 I) (lU (SU.eq (v':=vb true) (eQ I I) (congrArg vb (decide_eq_true (by simp)))) ?_)))
   refine lM I (lZ I I I (lZ I I I (lZ I I I (lZ I I I (lU (pT I I) (lM I (lZ I I I (lZ I I I (lZ I I I (lU (pT I I) (SL.nT (cT I (xI (tX (bX (tN (rG (lU (aD I I oM) (lM I (nL ?_))))))))))))))))))))
   refine gA (g2,av,rs,all,k + 1) sB I I ⟨hle.trans hle2,lN,hall2,⟨hal,has⟩,hsrt,?_⟩ lN
   rw [hsa,simpAll,if_pos hbad]
  ·have hTl : T.length = t.length + 1:=by rw [hTa]; rfl
   have hbT:=SlA.based hset oM
   have hga : T[((0 : Nat) : Int).toNat]? = some a:=by rw [hTa]; rfl
   have hbe : badSet (setC x) = (decide (a < 0) || decide ((T.length : Int) > 9)):=by rw [hT,hTa]; rfl
   have hbe1 : a < 0 → (decide (a < 0) || decide ((T.length : Int) > 9)) = true:=fun h=>by simp [h]
   have hbe2 : ¬ a < 0 → (decide (a < 0) || decide ((T.length : Int) > 9)) = decide ((T.length : Int) > 9):=fun h=>by simp [h]
   refine SC.sub (f':=[(0,.slice p rs0.length c),(2,pp b2 0),(3,av),(5,.slice q2 T.length d2),(14,.slice p rs0.length c),(15,vi rs0.length),(16,vi k)]) sB ?_
   refine SC.cutB 39 ((decide (a < 0) || decide ((T.length : Int) > 9))) ?_ ?_
   ·refine rG (lM I (lU (eN uT27 I) (lU (SU.eq (v':=vb false) (eQ I I) (congrArg vb (decide_eq_false oM))) (lM I (lY I I I (mV I) (lY I I I (iA uT27 zT3 I I hbT dC sL) (SL.gq (gT I I I dC) (eB iT3 I (SlA.rd hset) hga I) dC (lY I I I (lS I I) (lU (pF I I) (lM I ?_))))))))))
    refine sP ?_ ?_
    ·intro h35
     refine lZ I I I (lZ I I I (lZ I I I (lU (pT I I) (nL ?_))))
     exact ST.mid1 (by (rw [hbe1 h35]; rfl)) mI
    ·intro h35
     refine lY I I I (mV I) (lY I I I (eN uT27 I) (lY I I I (gR I I) (lU (pF I I) (nL ?_))))
     exact ST.mid1 (by (rw [hbe2 h35]; rfl)) mI
   refine iQ I (fun hbad=>?_) (fun hbad=>?_)
   ·refine xI (tX (bX (tN (rG (lU (aD I I oM) (lM I (nL ?_)))))))
    refine gA (g2,av,rs,all,k + 1) sB I I ⟨hle.trans hle2,lN,hall2,⟨hal,has⟩,hsrt,?_⟩ lN
    rw [hsa,simpAll,if_pos (hbe.trans hbad)]
   ·have hb9 : T.length ≤ 9:=by simp at hbad; omega
    have hsub1:=subsetsC_length T hb9
    have hsub2:=subsetsC_short hb9
    have hsub3:=subsetsC_pos (t:=T) (by rw [hTa]; simp)
    have hnb : ¬ badSet (setC x) = true:=by rw [hbe,hbad]; simp
    refine kP (tN (SC.sR (lM I (lM I (lW (cL call89 I (subsets_spec E g2 _ _ T hset hb9)) ?_)))))
    rintro v42 g3 _ ⟨rfl,hle3,hsub⟩
    obtain ⟨rs2,hrs2,hall3⟩:=hsub
    have hrl2:=hall3.length
    refine lW (aQ (e:=encSv) 0 sty22 I I I hrs2 oM oM) ?_
    rintro v43 _ _ ⟨rfl,rfl⟩
    have hall4:=(hall2.mono fun _ _=>ListR.mono hle3).append hall3
    obtain ⟨L,hL1,hL2⟩:=lv_of hall4 (fun y hy=>(List.mem_append.1 hy).elim (fun h=>Nat.lt_of_le_of_lt (has y h) dC) (fun h=>Nat.lt_of_le_of_lt (hsub2 y h) dC))
    have hLl : L.length = all.length + (subsetsC T).length:=(by have:=congrArg List.length hL1; simpa using this)
    rw [← hL2,← lv_row]
    refine lA I (SL.nT (SC.sR (lM I (lW (cL call90 I (sortFuncAny E g3 _ _ L oM oM)) ?_))))
    rintro _ _ _ ⟨rfl,L2,hp2,hs2,rfl⟩
    have hL2l:=hp2.length_eq
    have hcall : ∀ (x y : LV g3) s',CallV Tryz.prog E (.func (.func 93) #[] #[]) [x.val,y.val] g3 s' (fun r g' s''=>r = vb (decide (x.l = y.l)) ∧ g3 = g' ∧ s' = s''):=fun x y s'=>CallV.mk (args:=[x.val,y.val]) (cap:=[]) call93 (equalInts E g3 s' _ _ x.l y.l x.h y.h x.len)
    refine SL.nT (SC.sR (lM I (lW (cL call92 I (compactL (encLV g3) LV.val (fun _=>I) (fun _=>I) E g3 _ _ 93 (fun x y=>decide (x.l = y.l)) L2 oM hcall)) ?_)))
    rintro v47 _ _ ⟨rfl,rfl⟩
    refine SL.facts fun ⟨w0,hw0⟩=>?_
    obtain ⟨q,d,rfl⟩:=rowA_form (i:=0) hw0 rfl
    clear hw0 w0
    rw [lv_row]
    have hnew : (uniq (fun x y : LV g3=>decide (x.l = y.l)) L2).map LV.l = addSets all T:=(by rw [uniq_map LV.l (fun x y : LV g3=>decide (x.l = y.l)) eqL (fun _ _=>rfl),hs2,hL1]; rfl)
    have hnl : (uniq (fun x y : LV g3=>decide (x.l = y.l)) L2).length = (addSets all T).length:=(by rw [← hnew,List.length_map])
    have hall5:=lv_all (uniq (fun x y : LV g3=>decide (x.l = y.l)) L2)
    rw [hnew] at hall5
    generalize (uniq (fun x y : LV g3=>decide (x.l = y.l)) L2).length = n47 at *
    generalize (uniq (fun x y : LV g3=>decide (x.l = y.l)) L2).map LV.sv = rs5 at *
    refine lA I (SL.nT (SC.sR (lM I (lU (eN uT22 I) (lU (gR I I) (SL.nT ?_))))))
    refine iP I (fun hmany=>?_) (fun hmany=>?_)
    ·have hnone : simpAll [] ls = none:=by rw [hsa,simpAll,if_neg hnb,hT,if_pos oM]
     refine SC.sR (lU (SU.build I (buildE31)) (SL.O2 (sK 1 zT31 I I I I I sB) ?_))
     refine SL.nT (rE (bR (tR (tR (bR (tR ?_))))))
     exact ST.retCD 1 s (.inl I) results31 I iT31 zT31 I I (.cons _ (.cons _ (.refl _))) ⟨I,hle.trans (hle2.trans hle3),_,I,by simp only [simpC,hnone]; exact ⟨[],Sl.nil _ _,trivial⟩⟩
    ·refine kP (bN (tN (rG (lU (aD I I oM) (lM I (nL ?_))))))
     refine gA (g3,.slice q n47 d,rs5,addSets all T,k + 1) sB I I ⟨hle.trans (hle2.trans hle3),lN,hall5,⟨lN,fun y hy=>?_⟩,addSets_srt all T,?_⟩ lN
     ·rcases addSets_mem hy with h | h
      ·exact has y h
      ·exact hsub2 y h
     ·rw [hsa,simpAll,if_neg hnb,hT,if_neg oM]
 ·have hk0 : k = rs0.length:=oM
  have hsome : simpAll [] ls = some all:=by rw [hsa,hk0,← hlen0,List.drop_length]; rfl
  have hfit:=simpCells_fits hal has
  refine xI (tX (tX (bX (tN (sQ (fS fun g2 hle2 hs2=>?_))))))
  have hav : SlA encSv g2 av rs:=hs2
  obtain ⟨q,d,rfl⟩:=SlA.form hav
  have hall2:=hall.mono fun _ _=>ListR.mono hle2
  refine rG (SL.bx (aL zeroValue31) fun b6=>?_)
  refine SL.nT (sQ (SC.sR (lM I (lU (eN uT22 I) (lM I (SL.nT (bK (SC.nilRow 40 3 ?_))))))))
  refine oP (ι:=PH × Value × List Rc × Nat) (fun i=>[(2,pp b2 0),(3,.slice q rs.length d),(6,pp b6 0),(53,.slice q rs.length d),(54,vi rs.length),(55,vi i.2.2.2)]) (fun i=>i.1)
   (fun i=>rowA encCell 40 i.2.1 i.2.2.1 :: pt b6 (.cells #[i.2.1] 31 (0,0)) :: pt b2 (.cells #[.slice none 0 0] 31 (0,0)) :: s)
   (fun i=>Le g2 i.1 ∧ i.2.2.2 ≤ rs.length ∧ All2 (CellR i.1) ((simpCells all).take i.2.2.2) i.2.2.1) (fun i=>rs.length - i.2.2.2)
   (g2,.slice none 0 0,[],0) sB rfl rfl ⟨Le.refl g2,Nat.zero_le _,trivial⟩ ?_
  rintro ⟨g3,ov,rcs,n⟩ ⟨hle3,hn3,hrcs⟩
  dsimp only at hle3 hn3 hrcs ⊢
  have hrcl:=hrcs.length
  rw [List.length_take,simpCells_length] at hrcl
  refine SC.sR (lU (lS I I) (SL.nT (sQ ?_)))
  refine iP I (fun hlt2=>?_) (fun hlt2=>?_)
  ·have hnl : n < all.length:=oM
   have hnr : n < rs.length:=oM
   have hb1:=hav.based oM
   have hR:=(hall2.get (gE hnl) (gE hnr)).mono hle3
   have hRl:=hR.len
   have hx9:=has _ (gM hnl)
   have hget:=simpCells_get hnl
   generalize hx : all[n] = x at *
   generalize hr : rs[n] = r at *
   obtain ⟨rp,rn,rc⟩:=r
   dsimp only at hRl
   subst hRl
   have hxs : Ints g3 (.slice rp x.length rc) x:=hR
   have hgr : rs[((n : Nat) : Int).toNat]? = some ⟨rp,x.length,rc⟩:=by rw [← hr]; exact gE hnr
   refine kP (tN (sQ (bK (SC.sR (lM I (lU (iA uT22 zT27 I I hb1 oM sL) (lK (eB (u:=.slice rp x.length rc) iT27 I (hav.mono hle3).rd hgr I) (lA I (lA I (SL.nT (SC.sR (lM I (lU (aD I I oM) (lM I (lU (eN uT27 I) (lU (sU I I oM) (lU (SU.build I (buildC40 _ _)) (SL.bx (aL zeroValue40) fun b9=>?_))))))))))))))))))
   refine SL.O2 (sK 0 zT40 I I I I I sB) ?_
   refine SL.nT (sQ (sQ (SC.nilRow 42 2 (rG (lM I (lU (eN uT27 I) (lM I (SL.nT (bK ?_)))))))))
   refine oP (ι:=PH × Value × Nat) (fun i=>[(2,pp b2 0),(3,.slice q rs.length d),(6,pp b6 0),(53,.slice q rs.length d),(54,vi rs.length),(55,vi n),(8,.slice rp x.length rc),(9,pp b9 0),(66,.slice rp x.length rc),(67,vi x.length),(68,vi i.2.2)]) (fun i=>i.1)
    (fun i=>rowA encSide 42 i.2.1 (simpSides all x i.2.2) :: pt b9 (.cells #[vi ((n : Int) + 1),vi ((x.length : Int) - 1),i.2.1] 40 (0,0)) :: rowA encCell 40 ov rcs :: pt b6 (.cells #[ov] 31 (0,0)) :: pt b2 (.cells #[.slice none 0 0] 31 (0,0)) :: s)
    (fun i=>Le g3 i.1 ∧ i.2.2 ≤ x.length) (fun i=>x.length - i.2.2)
    (g3,.slice none 0 0,0) sB rfl rfl ⟨Le.refl g3,Nat.zero_le _⟩ ?_
   rintro ⟨g4,sv,j⟩ ⟨hle4,hj⟩
   dsimp only at hle4 hj ⊢
   have hssl:=simpSides_length all x j
   have hsucc:=simpSides_succ all x j
   refine SC.sR (lU (lS I I) (SL.nT (sQ ?_)))
   refine iP I (fun hlt3=>?_) (fun hlt3=>?_)
   ·have hjl : j < x.length:=oM
    have hxs4 : Ints g4 (.slice rp x.length rc) x:=hxs.mono hle4
    have hcap:=(SlA.cap hxs4).2
    have hc1:=SlA.cut hxs4 (l:=0) (m:=j) oM oM
    have hc2:=SlA.cut hxs4 (l:=j + 1) (m:=x.length) oM oM
    have he1 : (x.drop 0).take (j - 0) = x.take j:=by simp
    have he2 : (x.drop (j + 1)).take (x.length - (j + 1)) = x.drop (j + 1):=tL (by rw [List.length_drop]; omega)
    rw [he1] at hc1
    rw [he2] at hc2
    have her : [x.take j,x.drop (j + 1)].flatten = x.eraseIdx j:=by rw [List.eraseIdx_eq_take_drop_succ]; simp
    have hel : (x.eraseIdx j).length = x.length - 1:=by rw [List.length_eraseIdx]; simp [hjl]
    have hsum : sumLen [x.take j,x.drop (j + 1)] < 1099511627776:=by simp [sumLen]; omega
    refine kP (tN (sQ (bK (SC.sR (lM I (lA I (SL.nT (sQ ?_))))))))
    refine dW [] [(0,2),(1,2),(2,2),(3,2),(4,2),(5,2),(6,2),(7,0),(8,0),(9,2)] Tryz.mixed (by kernel_rfl) ?_
    refine pU I (mV I) (pU I (mV I) (pU I (SU.sliceH uT27 zT3 I I oM oM) (pU I (mV I) (pU I (mV I) (pU I (aD I I oM) (pU I (SU.eq (v':=sliced rp (j + 1) x.length rc 1) (SU.sliceL uT27 zT3 I I oM oM) (by rw [show ((j : Int) + 1).toNat = j + 1 by omega])) ?_))))))
    refine SP.o rfl (bS sty22 rfl rfl rfl (szs_mk sB) dC) dC (.inr (by rintro _ _ _ ⟨b78,rfl,rfl,rfl⟩; exact ⟨by exact Le.refl _,(by exact .cons _ (.refl _))⟩)) ?_
    rintro _ _ _ ⟨b78,rfl,rfl,rfl⟩
    refine SP.freeze fun g5 hle5 hb78=>?_
    have hlit : Lists g5 (.slice (some ⟨b78,0,none⟩) 2 2) [x.take j,x.drop (j + 1)]:=⟨[svOf (sliced rp 0 j rc 1),svOf (sliced rp (j + 1) x.length rc 1)],SlA.lit hb78 rfl rfl,⟨hc1.mono hle5,hc2.mono hle5,trivial⟩⟩
    refine SP.o rfl (cL call94 rfl (concat_spec E g5 _ _ _ hlit (by simp) hsum)) dC (.inr (by rintro v79 _ _ ⟨rfl,rfl⟩; exact ⟨by assumption,(by exact .cons _ (.refl _))⟩)) ?_
    rintro v79 _ _ ⟨rfl,rfl⟩
    refine pU I (aS I) (pN (tN (sQ (fS fun g6 hle6 hs6=>?_))))
    have hrest : Ints g6 v79 (x.eraseIdx j):=(by rw [← her]; exact hs6)
    obtain ⟨q6,d6,rfl⟩:=SlA.form hrest
    clear hs6
    refine rG (lM I (lU (eN uT27 I) (lU (gR I I) (SL.nT ?_))))
    refine iP I (fun hpos=>?_) (fun hpos=>?_)
    ·have hside : sideAt all x j = [⟨lbL all (x.eraseIdx j) + 1,signC j⟩]:=by unfold sideAt; rw [if_pos oM]
     have hlb:=lbL_le all (x.eraseIdx j)
     rw [hside] at hsucc
     have hlist : Lists g6 (.slice q rs.length d) all:=⟨rs,hav.mono (hle3.trans (hle4.trans (hle5.trans hle6))),hall2.mono fun _ _=>ListR.mono (hle3.trans (hle4.trans (hle5.trans hle6)))⟩
     refine SC.sR (lM I (lM I (lW (cL call95 I (binSearchL E g6 _ _ _ all (x.eraseIdx j) hlist hrest oM (fun y hy=>by have:=has y hy; omega) (srt_mono hsrt _))) ?_)))
     rintro _ _ _ ⟨⟨fb,rfl⟩,rfl,rfl⟩
     refine lM I (lU (xT I I) (lU (xT I I) (lA I (lA I (SL.nT ?_)))))
     refine dW [8,9,10] [(0,2),(1,1),(2,2),(3,2),(4,2),(5,0),(6,2),(7,0),(8,0),(9,0),(10,0)] Tryz.mixed (by kernel_rfl) ?_
     refine pU rfl (fA uT40 rfl zT38 rfl) (pK rfl (qL iT38 rfl (cO 1 rfl rfl)) (pU rfl (mV rfl) (pU rfl (aD rfl rfl oM) (pU rfl (mV rfl) (SP.o rfl (cL call96 rfl (sign_spec E g6 _ j)) dC (.inr (by rintro _ _ _ ⟨rfl,rfl,rfl⟩; exact ⟨by exact Le.refl _,(by exact .refl _)⟩)) ?_)))))
     rintro _ _ _ ⟨rfl,rfl,rfl⟩
     refine pU rfl (SU.build rfl (buildS42 _ _)) (SP.o rfl (bS sty38 rfl rfl rfl (szs_mk sB) dC) dC (.inr (by rintro _ _ _ ⟨b96,rfl,rfl,rfl⟩; exact ⟨by exact Le.refl _,(by exact .cons _ (.refl _))⟩)) ?_)
     rintro _ _ _ ⟨b96,rfl,rfl,rfl⟩
     refine SP.o I (aP (e:=encSide) 0 ⟨lbL all (x.eraseIdx j) + 1,signC j⟩ sty38 I I I I I oM oM) dC (.inl dC) ?_
     rintro v97 _ _ ⟨rfl,rfl⟩
     rw [← hsucc]
     refine SP.facts fun ⟨w0,hw0⟩=>?_
     obtain ⟨q97,d97,rfl⟩:=rowA_form (i:=0) hw0 rfl
     clear hw0 w0
     refine oU rfl (fA uT40 rfl zT38 rfl) dC (.inl dC) (SP.on rfl (SO.store1 1 zT38 rfl rfl rfl rfl (bE rfl) (by rfl)) (.inl dC) ?_)
     rintro _ _ _ ⟨rfl,rfl⟩
     refine pN (bN (tN (rG (lU (aD I I oM) (lM I (nL ?_))))))
     exact gA (g6,_,j + 1) sB I I ⟨hle4.trans (hle5.trans hle6),lN⟩ lN
    ·have hside : sideAt all x j = []:=by unfold sideAt; rw [if_neg oM]
     rw [hside,List.append_nil] at hsucc
     refine kP (bN (tN (rG (lU (aD I I oM) (lM I (nL ?_))))))
     refine ST.to (fun w hw=>?_) (g':=g6) (s':=rowA encSide 42 sv (simpSides all x (j + 1)) :: pt b9 (.cells #[vi ((n : Int) + 1),vi ((x.length : Int) - 1),sv] 40 (0,0)) :: rowA encCell 40 ov rcs :: pt b6 (.cells #[ov] 31 (0,0)) :: pt b2 (.cells #[.slice none 0 0] 31 (0,0)) :: s) ?_
     ·rw [hsucc]; exact hw
     exact gA (g6,sv,j + 1) sB I I ⟨hle4.trans (hle5.trans hle6),lN⟩ lN
   ·have hjj : j = x.length:=oM
    subst hjj
    refine xI (tX (tX (bX (tN (rG (fR fun g5 hle5 hs5=>?_))))))
    have hsd : SlA encSide g5 sv (simpSides all x x.length):=hs5
    obtain ⟨q5,d5,rfl⟩:=SlA.form hsd
    obtain ⟨nc,hnc⟩ : ∃ nc : Rc,nc = ⟨(n : Int) + 1,(x.length : Int) - 1,⟨q5,(simpSides all x x.length).length,d5⟩⟩:=⟨_,rfl⟩
    refine lU (fA uT31 I zT29 I) (lK (qL iT29 I (cO 2 I I)) (lK (qV 0 iT40 zT40 I I I) (lW (bS sty29 I I I (szs_mk sB) dC) ?_)))
    rintro _ _ _ ⟨b103,rfl,rfl,rfl⟩
    refine lW (aP (e:=encCell) 1 nc sty29 rfl rfl rfl rfl (by rw [hnc]; rfl) oM oM) ?_
    rintro v104 _ _ ⟨rfl,rfl⟩
    refine SL.facts fun ⟨w0,hw0⟩=>?_
    obtain ⟨q104,d104,rfl⟩:=rowA_form (i:=1) hw0 rfl
    clear hw0 w0
    refine lU (fA uT31 I zT29 I) (SL.O2 (sK 2 zT29 I I I I I sB) ?_)
    refine nL (bN (tN (rG (lU (aD I I oM) (lM I (nL (dR (s':=rowA encCell 40 (.slice q104 (rcs ++ [nc]).length d104) (rcs ++ [nc]) :: pt b6 (.cells #[.slice q104 (rcs ++ [nc]).length d104] 31 (0,0)) :: pt b2 (.cells #[.slice none 0 0] 31 (0,0)) :: s) (.cons _ (.refl _)) ?_)))))))
    refine gA (g5,_,rcs ++ [nc],n + 1) sB I I ⟨hle3.trans (hle4.trans hle5),lN,?_⟩ lN
    dsimp only
    rw [take_succ_of hget]
    exact (hrcs.mono fun _ _=>CellR.mono (hle4.trans hle5)).append ⟨(by rw [hnc]; exact ⟨I,I,hsd⟩),trivial⟩
  ·have hnn : n = rs.length:=oM
   have htk : (simpCells all).take n = simpCells all:=tL (by rw [simpCells_length]; omega)
   rw [htk] at hrcs
   refine xI (tX (tX (bX (tN (sQ (fS fun g4 hle4 hs4=>?_))))))
   have hov : Cells g4 ov (simpCells all):=⟨rcs,hs4,hrcs.mono fun _ _=>CellR.mono hle4⟩
   refine rG (lK (qV 0 iT31 zT31 I I I) (lW (cL call16 I (canon_spec E g4 _ ov (simpCells all) hov hfit)) ?_))
   rintro _ g5 _ ⟨rfl,hle5,u,rfl,hu⟩
   obtain ⟨q9,d9,rfl⟩:=hu.form
   refine SL.O2 (sK 1 zT31 I I I I I sB) ?_
   refine SL.nT (rE ?_)
   exact ST.retCD 1 s (.inl I) results31 I iT31 zT31 I I (.cons _ (.cons _ (.refl _))) ⟨I,hle.trans (hle2.trans (hle3.trans (hle4.trans hle5))),_,I,by simp only [simpC,hsome]; exact hu⟩
def CellO (c : Cl) (r : Rc) : Prop:=r.id = c.id ∧ r.dim = c.dim ∧ r.sv.n = c.sides.length
def ownC (c : Cl) (r : Rc) : Ent:=rowA encSide 42 (.slice r.sv.p r.sv.n r.sv.c) c.sides
def ownS : List Cl → List Rc → Own
 | c :: l,r :: rs=>ownC c r :: ownS l rs
 | _,_=>[]
theorem ownS_append : ∀ {l : List Cl} {rs : List Rc} (c : Cl) (r : Rc),l.length = rs.length → ownS (l ++ [c]) (rs ++ [r]) = ownS l rs ++ [ownC c r]
 | [],[],_,_,_=>rfl
 | x :: l,y :: rs,c,r,h=>by
  simp only [List.cons_append,ownS]
  rw [ownS_append c r (by simpa using h)]
 | [],_ :: _,_,_,h=>by simp at h
 | _ :: _,[],_,_,h=>by simp at h
theorem ownS_get : ∀ {l : List Cl} {rs : List Rc} {k : Nat} {c : Cl} {r : Rc},l[k]? = some c → rs[k]? = some r → (ownS l rs)[k]? = some (ownC c r)
 | x :: l,y :: rs,0,c,r,h1,h2=>by simp at h1 h2; subst h1; subst h2; rfl
 | x :: l,y :: rs,k + 1,c,r,h1,h2=>by simp at h1 h2; simpa [ownS] using ownS_get h1 h2
 | [],_,_,_,_,h1,_=>by simp at h1
 | _ :: _,[],_,_,_,_,h2=>by simp at h2
theorem ownS_length : ∀ {l : List Cl} {rs : List Rc},l.length = rs.length → (ownS l rs).length = l.length
 | [],[],_=>rfl
 | x :: l,y :: rs,h=>by simp [ownS,ownS_length (l:=l) (rs:=rs) (by simpa using h)]
 | [],_ :: _,h=>by simp at h
 | _ :: _,[],h=>by simp at h
theorem ownS_set : ∀ {l : List Cl} {rs : List Rc} {k : Nat} (c : Cl) (r : Rc),l.length = rs.length → (ownS l rs).set k (ownC c r) = ownS (l.set k c) (rs.set k r)
 | [],[],_,_,_,_=>rfl
 | x :: l,y :: rs,0,c,r,_=>rfl
 | x :: l,y :: rs,k + 1,c,r,h=>by simp only [ownS,List.set_cons_succ]; rw [ownS_set c r (by simpa using h)]
 | [],_ :: _,_,_,_,h=>by simp at h
 | _ :: _,[],_,_,_,h=>by simp at h
theorem freezeO {E : World} {s : Own} {w : World} : ∀ {l : List Cl} {rs : List Rc} {g : PH},All2 CellO l rs → At E g (ownS l rs ++ s) w → ∃ g',Le g g' ∧ At E g' s w ∧ All2 (CellR g') l rs
 | [],[],g,_,h=>⟨g,Le.refl g,h,trivial⟩
 | c :: l,r :: rs,g,h1,h=>by
  obtain ⟨g1,hl1,ha1,hs1⟩:=At.freezeRow h
  obtain ⟨g2,hl2,ha2,hs2⟩:=freezeO h1.2 ha1
  exact ⟨g2,hl1.trans hl2,ha2,⟨h1.1.1,h1.1.2.1,SlA.mono hs1 hl2⟩,hs2⟩
 | [],_ :: _,_,h1,_=>h1.elim
 | _ :: _,[],_,h1,_=>h1.elim
theorem freezeCells {E : World} {s : Own} {w : World} {l : List Cl} {rs : List Rc} {g : PH} {u : Value} (h1 : All2 CellO l rs) (h : At E g (rowA encCell 40 u rs :: (ownS l rs ++ s)) w) : ∃ g',Le g g' ∧ At E g' s w ∧ Cells g' u l:=by
 obtain ⟨g1,hl1,ha1,hs1⟩:=At.freezeRow h
 obtain ⟨g2,hl2,ha2,hs2⟩:=freezeO h1 ha1
 exact ⟨g2,hl1.trans hl2,ha2,rs,SlA.mono hs1 hl2,hs2⟩
theorem SC.freezeCells {P : Program} {N : Nat} {E : World} {Q : Exit → Act → World → Prop} {f : Fr} {g : PH} {s : Own} {o : Code} {l : List Cl} {rs : List Rc} {u : Value} (h1 : All2 CellO l rs) (h : ∀ g',Le g g' → Cells g' u l → SC P N E o Q f g' s) : SC P N E o Q f g (rowA encCell 40 u rs :: (ownS l rs ++ s)):=fun a w ha hw=>by
 obtain ⟨g',h2,h3,h4⟩:=Go.Proofs.YtkdibcicncjpdaaGreatDoor.freezeCells h1 hw
 exact h g' h2 h4 a w ha h3
theorem copy_own (E : World) (g : PH) (s : Own) (v : Value) (l : List Cl) (hv : Cells g v l) (hf : Fits l) :
  Ctr Tryz.prog E 28 #[.agg #[v]] g s (fun r g' s'=>g = g' ∧ ∃ u rs,r = .agg #[u] ∧ All2 CellO l rs ∧ s' = rowA encCell 40 u rs :: (ownS l rs ++ s)):=by
 obtain ⟨rs,hrs,hall⟩:=hv
 have hlen:=hall.length
 have hfl:=hf.1
 obtain ⟨p,c,rfl⟩:=hrs.form
 refine Ctr.of (args:=[.agg #[.slice p rs.length c]]) func28 I ntmps28 (bE I) ?_
 refine SC.sR (SL.bx (bO I) fun b1=>?_)
 refine SL.bx (aL zeroValue31) fun b2=>?_
 refine SL.nT (SC.sR (SL.bx (aL zeroValue31) fun b3=>?_))
 refine SL.nT (sQ (SC.sR (lA I (SL.nT (bK (SC.nilRow 40 3 ?_))))))
 refine oP (ι:=Nat × Value × List Rc) (fun i=>[(1,pp b1 0),(2,pp b2 0),(3,pp b3 0),(4,vi i.1)]) (fun _=>g)
  (fun i=>rowA encCell 40 i.2.1 i.2.2 :: pt b3 (.cells #[i.2.1] 31 (0,0)) :: pt b2 (.cells #[.slice none 0 0] 31 (0,0)) :: pt b1 (.cells #[.slice p rs.length c] 31 (0,0)) :: (ownS (l.take i.1) i.2.2 ++ s))
  (fun i=>i.1 ≤ rs.length ∧ All2 CellO (l.take i.1) i.2.2) (fun i=>rs.length - i.1) (0,.slice none 0 0,[])
  sB rfl rfl ⟨Nat.zero_le _,by simp [All2]⟩ ?_
 rintro ⟨k,ov,acc⟩ ⟨hk,hacc⟩
 dsimp only at hk hacc ⊢
 have hal:=hacc.length
 refine sQ (SC.sR (lM I (lU (fA uT31 I zT29 I) (lK (qL iT29 I (cO 3 I I)) (lU (eN uT29 I) (lU (lS I I) (SL.nT ?_)))))))
 refine iP I (fun hlt=>?_) (fun hlt=>?_)
 ·have hkr : k < rs.length:=oM
  have hkl : k < l.length:=oM
  have hb1:=hrs.based oM
  have hcr:=hall.get (gE hkl) (gE hkr)
  have hgx : rs[((k : Nat) : Int).toNat]? = some rs[k]:=gE hkr
  have htk : l.take (k + 1) = l.take k ++ [l[k]]:=tS hkl
  have hxl:=hf.2 _ (gM hkl)
  have hal2 : (l.take k).length ≤ k:=by simp; omega
  generalize rs[k] = x at *
  generalize l[k] = cx at *
  obtain ⟨xi,xd,xp,xn,xc⟩:=x
  have hxsl : SlA encSide g (.slice xp xn xc) cx.sides:=hcr.2.2
  have hxn : xn = cx.sides.length:=Sl.slen hxsl
  subst hxn
  refine kP (tN (sQ (bK (SC.sR (lU (fA uT31 I zT29 I) (lK (qL iT29 I (cO 3 I I)) (lM I (lU (iA uT29 zT40 I I hb1 oM (show (k : Int) < ((rs.length : Nat) : Int) by omega)) ?_))))))))
  refine lK (eA iT40 zT40 I hrs.rd hgx) (SL.bx (aL zeroValue40) fun b5=>?_)
  refine SL.O2 (sK 0 zT40 I I I I I sB) ?_
  refine SL.nT (SC.sR (lW (bS sty38 I I I (szs_mk trivial) dC) ?_))
  rintro _ _ _ ⟨b18,rfl,rfl,rfl⟩
  refine SL.emptyRow 42 2 (some ⟨b18,0,none⟩) (lU (fA uT40 I zT38 I) (lK (qL iT38 I (cO 2 I I)) (lW (SO.appendE (m:=cx.sides.length) 0 cx.sides.length (cx.sides.flatMap encSide.enc) sty38 I I I I I (Sl.rd hxsl) (encSide.length cx.sides) (encSide.ones cx.sides) oM (by simp) oM oM) ?_)))
  rintro r21 _ _ ⟨rfl,rfl⟩
  refine SL.facts fun ⟨w0,hw0⟩=>?_
  obtain ⟨q2,d2,rfl⟩:=rowA_form (e:=encSide) (l:=cx.sides) (i:=0) hw0 rfl
  clear hw0 w0
  obtain ⟨nc,hnc⟩ : ∃ nc : Rc,nc = ⟨xi,xd,q2,cx.sides.length,d2⟩:=⟨_,rfl⟩
  refine lU (fA uT40 rfl zT38 rfl) (SL.O2 (SO.store1 2 zT38 rfl rfl rfl rfl (bE rfl) (by rfl)) ?_)
  refine SL.nT (rG (lU (fA uT31 I zT29 I) (lK (qL iT29 I (cO 4 I I)) (lK (qV 2 iT40 zT40 I I I) (lW (bS sty29 I I I (szs_mk sB) dC) ?_)))))
  rintro _ _ _ ⟨b26,rfl,rfl,rfl⟩
  refine lW (aP (e:=encCell) 3 nc sty29 rfl rfl rfl rfl (by rw [hnc]; rfl) lN lN) ?_
  rintro ov' _ _ ⟨rfl,rfl⟩
  refine SL.facts fun ⟨w0,hw0⟩=>?_
  obtain ⟨q',d',rfl⟩:=rowA_form (e:=encCell) (l:=acc ++ [nc]) (i:=3) hw0 rfl
  clear hw0 w0
  refine lU (fA uT31 I zT29 I) (SL.O2 (sK 4 zT29 I I I I I sB) ?_)
  refine nL (bN (tN (rG (lM I (lU (aD I I oM) (lA I (nL ?_)))))))
  refine ST.to (fun w hw=>?_) (g':=g) (s':=rowA encCell 40 (.slice q' (acc ++ [nc]).length d') (acc ++ [nc]) :: pt b3 (.cells #[.slice q' (acc ++ [nc]).length d'] 31 (0,0)) :: pt b2 (.cells #[.slice none 0 0] 31 (0,0)) :: pt b1 (.cells #[.slice p rs.length c] 31 (0,0)) :: (ownS (l.take (k + 1)) (acc ++ [nc]) ++ s)) ?_
  ·rw [htk,ownS_append cx nc hal]
   have h1:=(hw.sublist (s':=ownC cx nc :: (rowA encCell 40 (.slice q' (acc ++ [nc]).length d') (acc ++ [nc]) :: pt b3 (.cells #[.slice q' (acc ++ [nc]).length d'] 31 (0,0)) :: pt b2 (.cells #[.slice none 0 0] 31 (0,0)) :: pt b1 (.cells #[.slice p rs.length c] 31 (0,0)) :: ownS (l.take k) acc) ++ s) (by rw [hnc]; exact .cons_cons _ (.cons _ (.cons _ (.refl _)))))
   have h2:=h1.perm List.perm_middle.symm
   simpa using h2
  exact gA (k + 1,_,acc ++ [nc]) sB I I ⟨lN,by
   dsimp only
   rw [htk]
   exact hacc.append ⟨(by rw [hnc]; exact ⟨hcr.1,hcr.2.1,I⟩),trivial⟩⟩ lN
 ·have hkk : l.take k = l:=tL oM
  rw [hkk] at hacc ⊢
  refine xI (tX (tX (bX (tN (sQ ?_)))))
  refine SC.facts fun ⟨w0,hw0⟩=>?_
  obtain ⟨q2,d2,rfl⟩:=rowA_form (i:=0) hw0 rfl
  clear hw0 w0
  refine rG (lK (qV 1 iT31 zT31 I I I) (SL.O2 (sK 2 zT31 I I I I I sB) ?_))
  refine SL.nT (rE ?_)
  exact ST.retCD 2 _ (.inl I) results28 I iT31 zT31 I I (.cons_cons _ (.cons _ (.cons _ (.cons _ (.refl _))))) ⟨I,_,acc,I,hacc,I⟩
theorem sideEql (x y : Side) (w : World) : (binOp .eql 42 (.agg (encSide.enc x).toArray) (.agg (encSide.enc y).toArray)).run Tryz.prog w = .ok (.bool (decide (x = y))) w:=by
 have hu : Tryz.prog.underlying 42 = some (.struct (Tryz.prog.fieldsOf 42)):=by kernel_rfl
 rw [run_eql_struct,run_equalIn_agg w 9999 42 _ _ hu stoodInHeld42]
 have hfs : ∃ f1 f2,(Tryz.prog.fieldsOf 42).toList = [f1,f2] ∧ f1.name ≠ "_" ∧ f2.name ≠ "_" ∧ f1.type = 3 ∧ f2.type = 3 ∧ f1.offset = 0 ∧ f2.offset = 1:=⟨_,_,rfl,by decide,by decide,rfl,rfl,rfl,rfl⟩
 obtain ⟨f1,f2,e,n1,n2,t1,t2,o1,o2⟩:=hfs
 obtain ⟨a,b⟩:=x
 obtain ⟨c,d⟩:=y
 rw [e]
 have h1:=run_equalIn_int (P:=Tryz.prog) w 9998 3 .i64 .i64 a c uT3
 have h2:=run_equalIn_int (P:=Tryz.prog) w 9998 3 .i64 .i64 b d uT3
 simp only [Op.eqFields,n1,n2,t1,t2,o1,o2,encSide,part,ne_eq,not_false_eq_true,if_true,Sem.run_bind,iT3,Result.andThen_ok]
 simp [h1,h2]
 by_cases hac : a = c <;> by_cases hbd : b = d <;> simp [hac,hbd]
theorem SU.eqlSide {N : Nat} {f : Fr} {dst : Option Tmp} {ty : TypeId} {pos : String} {af : Array Edge} {gd : Option (Nat × Bool)} {x y : Operand} (a b : Side) {U : TypeId} (hx : ev f x = some (.agg (encSide.enc a).toArray)) (hy : ev f y = some (.agg (encSide.enc b).toArray)) :
  SU Tryz.prog N ⟨dst,.binOp .eql 42 x y U,ty,pos,af,gd⟩ f (.bool (decide (a = b))):=fun ac w ha=>by
 have hg:=run_eqGuard_agg (P:=Tryz.prog) w .eql 42 x y (encSide.enc a).toArray (encSide.enc b).toArray eqGuardType42
 simp only [execOp,ha.ev hx,ha.ev hy,Sem.run_bind,hg,Result.andThen_ok,sideEql]
 rfl
def triL : List Cl:=[⟨1,0,[]⟩,⟨2,0,[]⟩,⟨3,0,[]⟩,⟨4,1,[⟨1,-1⟩,⟨2,1⟩]⟩,⟨5,1,[⟨1,-1⟩,⟨3,1⟩]⟩,⟨6,1,[⟨2,-1⟩,⟨3,1⟩]⟩,⟨7,2,[⟨4,1⟩,⟨5,-1⟩,⟨6,1⟩]⟩]
def lessL : List Cl:=[⟨1,0,[]⟩,⟨2,0,[]⟩,⟨3,0,[]⟩,⟨4,1,[⟨1,-1⟩,⟨2,1⟩]⟩,⟨6,1,[⟨2,-1⟩,⟨3,1⟩]⟩,⟨7,2,[⟨4,1⟩,⟨5,-1⟩,⟨6,1⟩]⟩]
def turnL : List Cl:=[⟨1,0,[]⟩,⟨2,0,[]⟩,⟨3,0,[]⟩,⟨4,1,[⟨1,-1⟩,⟨2,1⟩]⟩,⟨5,1,[⟨1,-1⟩,⟨3,1⟩]⟩,⟨6,1,[⟨2,-1⟩,⟨3,1⟩]⟩,⟨7,2,[⟨4,1⟩,⟨5,1⟩,⟨6,1⟩]⟩]
def edgeL : List Cl:=[⟨1,0,[]⟩,⟨2,0,[]⟩,⟨3,1,[⟨1,-1⟩,⟨2,1⟩]⟩]
theorem sortI_id {l : List Int} (h : l.Pairwise (· ≤ ·)) : sortI l = l:=by
 unfold sortI
 exact List.mergeSort_of_pairwise (h.imp fun h=>by simpa using h)
theorem setC_012 : setC [0,1,2] = [0,1,2]:=by
 unfold setC
 rw [sortI_id dC]
 rfl
theorem setC_01 : setC [0,1] = [0,1]:=by
 unfold setC
 rw [sortI_id dC]
 rfl
theorem simp_tri : simpC [[0,1,2]] = triL:=by
 simp only [simpC,simpAll,setC_012]
 rfl
theorem simp_edge : simpC [[0,1]] = edgeL:=by
 simp only [simpC,simpAll,setC_01]
 rfl
theorem tri_find7 : findC triL 7 = some ⟨7,2,[⟨4,1⟩,⟨5,-1⟩,⟨6,1⟩]⟩:=by kernel_rfl
theorem tri_find4 : findC triL 4 = some ⟨4,1,[⟨1,-1⟩,⟨2,1⟩]⟩:=by kernel_rfl
theorem tri_check : checkC triL = (0,0):=by kernel_rfl
theorem less_check : checkC lessL = (7,22):=by kernel_rfl
theorem turn_check : checkC turnL = (7,24):=by kernel_rfl
theorem tri_tops : topsC triL = [7]:=by kernel_rfl
theorem tri_above : aboveC triL 2 = [4,6]:=by kernel_rfl
theorem tri_closF : closF (tabC triL) [4] = [4,1,2]:=by kernel_rfl
theorem sortI_412 : sortI [4,1,2] = [1,2,4]:=by
 have h1 : (sortI [4,1,2]).Perm [1,2,4]:=(sortI_perm _).trans dC
 have h2 : sortI [1,2,4] = [1,2,4]:=sortI_id dC
 rw [← h2]
 exact mergeSort_of_perm_i dC
theorem tri_closure : closureC triL [4] = [1,2,4]:=by
 unfold closureC
 rw [tri_closF,sortI_412]
theorem tri_euler : eulC triL = 1:=by kernel_rfl
def squareL : List Cl:=prodC edgeL edgeL
theorem square_len : squareL.length = 9:=by kernel_rfl
theorem square_find : findC squareL 9 = some ⟨9,2,[⟨3,-1⟩,⟨6,1⟩,⟨7,1⟩,⟨8,-1⟩]⟩:=by kernel_rfl
theorem fits_dec {l : List Cl} (h : (l.all fun c=>decide (c.sides.length < 100)) = true) (h2 : l.length < 100) : Fits l:=by
 rw [List.all_eq_true] at h
 exact ⟨oM,fun c hc=>by have:=h c hc; simp at this; omega⟩
theorem tri_fits : Fits triL:=fits_dec dC dC
theorem less_fits : Fits lessL:=fits_dec dC dC
theorem turn_fits : Fits turnL:=fits_dec dC dC
theorem edge_fits : Fits edgeL:=fits_dec dC dC
theorem square_fits : Fits squareL:=fits_dec (by kernel_rfl) (by rw [square_len]; decide)
theorem triangle_spec (E : World) (g : PH) (s : Own) : Ctr Tryz.prog E 26 #[] g s (fun r g' s'=>s = s' ∧ Le g g' ∧ ∃ u,r = .agg #[u] ∧ Cells g' u triL):=by
 refine Ctr.of (args:=[]) func26 I ntmps26 (bE I) ?_
 refine SC.sR (SL.bx (aL zeroValue31) fun b0=>?_)
 refine SL.nT (SC.sR (lW (bS sty27 I I I (szs_mk sB) dC) ?_))
 rintro _ _ _ ⟨b1,rfl,rfl,rfl⟩
 refine SL.freeze fun g1 hle1 hb1=>?_
 refine lW (bS sty22 I I I (szs_mk ⟨I,trivial⟩) dC) ?_
 rintro _ _ _ ⟨b2,rfl,rfl,rfl⟩
 refine SL.freeze fun g2 hle2 hb2=>?_
 have hlit : Lists g2 (.slice (some ⟨b2,0,none⟩) 1 1) [[0,1,2]]:=⟨[svOf (.slice (some ⟨b1,0,none⟩) 3 3)],SlA.lit hb2 rfl rfl,⟨SlA.lit (hle2 _ _ hb1) rfl rfl,trivial⟩⟩
 refine lW (cL call31 I (simplicial_spec E g2 _ _ _ hlit dC dC)) ?_
 rintro _ g3 _ ⟨rfl,hle3,u,rfl,hu⟩
 rw [simp_tri] at hu
 obtain ⟨q,d,rfl⟩:=hu.form
 refine SL.O2 (sK 0 zT31 I I I I I sB) ?_
 refine SL.nT (rE ?_)
 exact ST.retCD 0 s (.inl I) results26 I iT31 zT31 I I (.cons _ (.refl _)) ⟨I,hle1.trans (hle2.trans hle3),_,I,hu⟩
theorem CellO.form {c : Cl} {r : Rc} (h : CellO c r) : ∃ p d,r = ⟨c.id,c.dim,⟨p,c.sides.length,d⟩⟩:=by
 obtain ⟨i,dm,p,n,d⟩:=r
 obtain ⟨h1,h2,h3⟩:=h
 dsimp only at h1 h2 h3
 subst h1 h2 h3
 exact ⟨p,d,I⟩
theorem All2.cons_left {α β : Type} {R : α → β → Prop} {a : α} {l : List α} {m : List β} (h : All2 R (a :: l) m) : ∃ b m',m = b :: m' ∧ R a b ∧ All2 R l m':=by
 cases m with
 | nil=>exact h.elim
 | cons b m=>exact ⟨b,m,rfl,h.1,h.2⟩
theorem All2.nil_left {α β : Type} {R : α → β → Prop} {m : List β} (h : All2 R ([] : List α) m) : m = []:=by
 cases m with
 | nil=>rfl
 | cons b m=>exact h.elim
def triRs (p1 p2 p3 p4 p5 p6 p7 : Option Addr) (d1 d2 d3 d4 d5 d6 d7 : Nat) : List Rc :=
 [⟨1,0,⟨p1,0,d1⟩⟩,⟨2,0,⟨p2,0,d2⟩⟩,⟨3,0,⟨p3,0,d3⟩⟩,⟨4,1,⟨p4,2,d4⟩⟩,⟨5,1,⟨p5,2,d5⟩⟩,⟨6,1,⟨p6,2,d6⟩⟩,⟨7,2,⟨p7,3,d7⟩⟩]
theorem tri_rs {rs : List Rc} (h : All2 CellO triL rs) : ∃ p1 p2 p3 p4 p5 p6 p7 d1 d2 d3 d4 d5 d6 d7,rs = triRs p1 p2 p3 p4 p5 p6 p7 d1 d2 d3 d4 d5 d6 d7:=by
 obtain ⟨r1,rs,rfl,h1,h⟩:=All2.cons_left h
 obtain ⟨r2,rs,rfl,h2,h⟩:=All2.cons_left h
 obtain ⟨r3,rs,rfl,h3,h⟩:=All2.cons_left h
 obtain ⟨r4,rs,rfl,h4,h⟩:=All2.cons_left h
 obtain ⟨r5,rs,rfl,h5,h⟩:=All2.cons_left h
 obtain ⟨r6,rs,rfl,h6,h⟩:=All2.cons_left h
 obtain ⟨r7,rs,rfl,h7,h⟩:=All2.cons_left h
 have:=All2.nil_left h
 subst this
 obtain ⟨p1,d1,rfl⟩:=h1.form
 obtain ⟨p2,d2,rfl⟩:=h2.form
 obtain ⟨p3,d3,rfl⟩:=h3.form
 obtain ⟨p4,d4,rfl⟩:=h4.form
 obtain ⟨p5,d5,rfl⟩:=h5.form
 obtain ⟨p6,d6,rfl⟩:=h6.form
 obtain ⟨p7,d7,rfl⟩:=h7.form
 exact ⟨p1,p2,p3,p4,p5,p6,p7,d1,d2,d3,d4,d5,d6,d7,I⟩
theorem turn_o (p1 p2 p3 p4 p5 p6 p7 : Option Addr) (d1 d2 d3 d4 d5 d6 d7 : Nat) : All2 CellO turnL (triRs p1 p2 p3 p4 p5 p6 p7 d1 d2 d3 d4 d5 d6 d7) :=
 ⟨⟨rfl,rfl,rfl⟩,⟨rfl,rfl,rfl⟩,⟨rfl,rfl,rfl⟩,⟨rfl,rfl,rfl⟩,⟨rfl,rfl,rfl⟩,⟨rfl,rfl,rfl⟩,⟨rfl,rfl,rfl⟩,trivial⟩
theorem less_o (p1 p2 p3 p4 p5 p6 p7 : Option Addr) (d1 d2 d3 d4 d5 d6 d7 : Nat) : All2 CellO lessL ((triRs p1 p2 p3 p4 p5 p6 p7 d1 d2 d3 d4 d5 d6 d7).eraseIdx 4) :=
 ⟨⟨rfl,rfl,rfl⟩,⟨rfl,rfl,rfl⟩,⟨rfl,rfl,rfl⟩,⟨rfl,rfl,rfl⟩,⟨rfl,rfl,rfl⟩,⟨rfl,rfl,rfl⟩,trivial⟩
theorem SU.eqlSideT {N : Nat} {f : Fr} {dst : Option Tmp} {ty : TypeId} {pos : String} {af : Array Edge} {gd : Option (Nat × Bool)} {x y : Operand} (a : Side) {U : TypeId} (hx : ev f x = some (.agg (encSide.enc a).toArray)) (hy : ev f y = some (.agg (encSide.enc a).toArray)) :
  SU Tryz.prog N ⟨dst,.binOp .eql 42 x y U,ty,pos,af,gd⟩ f (vb true):=SU.eq (SU.eqlSide a a hx hy) (congrArg vb (decide_eq_true rfl))
theorem cellR_form {g : PH} {c : Cl} {r : Rc} (h : CellR g c r) : ∃ p d,r = ⟨c.id,c.dim,⟨p,c.sides.length,d⟩⟩ ∧ SlA encSide g (.slice p c.sides.length d) c.sides:=by
 obtain ⟨i,dm,p,n,d⟩:=r
 obtain ⟨h1,h2,h3⟩:=h
 dsimp only at h1 h2 h3
 have h4:=(SlA.cap h3).1
 subst h1 h2 h4
 exact ⟨p,d,I,h3⟩
theorem less_at {E : World} {g : PH} {w : World} {X Y : Ent} {R : Own} {p1 p2 p3 p4 p5 p6 p7 : Option Addr} {d1 d2 d3 d4 d5 d6 d7 : Nat} (h : At E g (X :: Y :: (ownS triL (triRs p1 p2 p3 p4 p5 p6 p7 d1 d2 d3 d4 d5 d6 d7) ++ R)) w) :
  At E g (Y :: (ownS lessL ((triRs p1 p2 p3 p4 p5 p6 p7 d1 d2 d3 d4 d5 d6 d7).eraseIdx 4) ++ (X :: R))) w :=
 (h.sublist (s':=X :: ((Y :: ownS lessL ((triRs p1 p2 p3 p4 p5 p6 p7 d1 d2 d3 d4 d5 d6 d7).eraseIdx 4)) ++ R)) (.cons_cons _ (.cons_cons _ (.cons_cons _ (.cons_cons _ (.cons_cons _ (.cons_cons _ (.cons _ (.refl _))))))))).perm (List.perm_middle (l₁:=Y :: ownS lessL ((triRs p1 p2 p3 p4 p5 p6 p7 d1 d2 d3 d4 d5 d6 d7).eraseIdx 4))).symm
theorem turn_at {E : World} {g : PH} {w : World} {X Y : Ent} {R : Own} {p1 p2 p3 p4 p5 p6 p7 : Option Addr} {d1 d2 d3 d4 d5 d6 d7 : Nat} (h : At E g (X :: Y :: (ownS turnL (triRs p1 p2 p3 p4 p5 p6 p7 d1 d2 d3 d4 d5 d6 d7) ++ R)) w) :
  At E g (Y :: (ownS turnL (triRs p1 p2 p3 p4 p5 p6 p7 d1 d2 d3 d4 d5 d6 d7) ++ (X :: R))) w :=
 h.perm (List.perm_middle (l₁:=Y :: ownS turnL (triRs p1 p2 p3 p4 p5 p6 p7 d1 d2 d3 d4 d5 d6 d7))).symm
theorem tri_ids : ∀ c ∈ triL,inI64 c.id:=by unfold inI64; decide
theorem sanity_spec (E : World) (hE : E.drawn = 0) (g : PH) (s : Own) : Ctr Tryz.prog E 6 #[] g s (fun r g' s'=>r = vb true ∧ s = s' ∧ Le g g'):=by
 refine Ctr.of (args:=[]) func6 I ntmps6 (bE I) ?_
 refine SC.sR (lA I (SL.nT (SC.sR (lW (cL call26 I (triangle_spec E g s)) ?_))))
 rintro _ g1 _ ⟨rfl,hle1,u,rfl,hu⟩
 obtain ⟨q,d,rfl⟩:=hu.form
 refine SL.bx (aL zeroValue31) fun b1=>?_
 refine SL.O2 (sK 0 zT31 I I I I I sB) ?_
 refine SL.nT (SC.sR (lK (qV 0 iT31 zT31 I I I) (lW (cL call27 I (find_spec E g1 _ _ triL 7 hu tri_fits)) ?_)))
 rintro _ g2 _ ⟨rfl,hle2,x,rfl,hx⟩
 rw [tri_find7] at hx
 rw [tri_find7]
 obtain ⟨xp,xd,rfl,hxs⟩:=cellR_form (c:=⟨7,2,[⟨4,1⟩,⟨5,-1⟩,⟨6,1⟩]⟩) hx
 have hbx : based (.slice xp 3 xd) = true:=hxs.based dC
 have hu2:=hu.mono hle2
 refine lM I (lU (xT I I) (lU (xT I I) (SL.bx (aL zeroValue40) fun b2=>?_)))
 refine SL.O2 (sK 0 zT40 I I I I I sB) ?_
 refine lA I (SL.nT (SC.sR (lK (qV 1 iT31 zT31 I I I) (lW (cL call27 I (find_spec E g2 _ _ triL 4 hu2 tri_fits)) ?_))))
 rintro _ g3 _ ⟨rfl,hle3,y,rfl,hy⟩
 rw [tri_find4] at hy
 rw [tri_find4]
 obtain ⟨yp,yd,rfl,hys⟩:=cellR_form (c:=⟨4,1,[⟨1,-1⟩,⟨2,1⟩]⟩) hy
 have hby : based (.slice yp 2 yd) = true:=hys.based dC
 have hu3:=hu2.mono hle3
 have hxs3:=hxs.mono hle3
 refine lM I (lU (xT I I) (lU (xT I I) (SL.bx (aL zeroValue40) fun b4=>?_)))
 refine SL.O2 (sK 0 zT40 I I I I I sB) ?_
 refine lA I (SL.nT (sQ (sQ ?_)))
 refine SC.to (fun w hw=>hw) (g':=g3) (s':=pt b4 (.cells #[vi 4,vi 1,.slice yp 2 yd] 40 (0,0)) :: pt b2 (.cells #[vi 7,vi 2,.slice xp 3 xd] 40 (0,0)) :: pt b1 (.cells #[.slice q triL.length d] 31 (0,0)) :: s) ?_
 refine rG (lM I (lU (SU.not I) (lM I ?_)))
 first | refine SL.gu (gT rfl rfl rfl dC) (mV rfl) dC ?_ | refine SL.off (gF rfl rfl rfl dC) dC ?_ | refine SL.off (Gd.off rfl rfl rfl dC) dC ?_
 first | refine SL.gu (gT rfl rfl rfl dC) (SU.not rfl) dC ?_ | refine SL.off (gF rfl rfl rfl dC) dC ?_ | refine SL.off (Gd.off rfl rfl rfl dC) dC ?_
 refine lU (pF I I) (lM I ?_)
 first | refine SL.gu (gT rfl rfl rfl dC) (fA uT40 rfl zT38 rfl) dC ?_ | refine SL.off (gF rfl rfl rfl dC) dC ?_ | refine SL.off (Gd.off rfl rfl rfl dC) dC ?_
 first | refine SL.gq (gT rfl rfl rfl dC) (qL (v:=.slice xp 3 xd) iT38 rfl (cO 1 rfl rfl)) dC ?_ | refine SL.off (gF rfl rfl rfl dC) dC ?_ | refine SL.off (Gd.off rfl rfl rfl dC) dC ?_
 first | refine SL.gu (gT rfl rfl rfl dC) (eN uT38 rfl) dC ?_ | refine SL.off (gF rfl rfl rfl dC) dC ?_ | refine SL.off (Gd.off rfl rfl rfl dC) dC ?_
 first | refine SL.gu (gT rfl rfl rfl dC) (nQ rfl rfl) dC ?_ | refine SL.off (gF rfl rfl rfl dC) dC ?_ | refine SL.off (Gd.off rfl rfl rfl dC) dC ?_
 refine lU (pF I I) (lM I ?_)
 first | refine SL.gu (gT rfl rfl rfl dC) (fA uT31 rfl zT29 rfl) dC ?_ | refine SL.off (gF rfl rfl rfl dC) dC ?_ | refine SL.off (Gd.off rfl rfl rfl dC) dC ?_
 first | refine SL.gq (gT rfl rfl rfl dC) (qL iT29 rfl (cO 2 rfl rfl)) dC ?_ | refine SL.off (gF rfl rfl rfl dC) dC ?_ | refine SL.off (Gd.off rfl rfl rfl dC) dC ?_
 first | refine SL.gu (gT rfl rfl rfl dC) (eN uT29 rfl) dC ?_ | refine SL.off (gF rfl rfl rfl dC) dC ?_ | refine SL.off (Gd.off rfl rfl rfl dC) dC ?_
 first | refine SL.gu (gT rfl rfl rfl dC) (nQ rfl rfl) dC ?_ | refine SL.off (gF rfl rfl rfl dC) dC ?_ | refine SL.off (Gd.off rfl rfl rfl dC) dC ?_
 refine lU (pF I I) (lM I ?_)
 first | refine SL.gu (gT rfl rfl rfl dC) (fA uT40 rfl zT38 rfl) dC ?_ | refine SL.off (gF rfl rfl rfl dC) dC ?_ | refine SL.off (Gd.off rfl rfl rfl dC) dC ?_
 first | refine SL.gq (gT rfl rfl rfl dC) (qL (v:=.slice yp 2 yd) iT38 rfl (cO 0 rfl rfl)) dC ?_ | refine SL.off (gF rfl rfl rfl dC) dC ?_ | refine SL.off (Gd.off rfl rfl rfl dC) dC ?_
 first | refine SL.gu (gT rfl rfl rfl dC) (eN uT38 rfl) dC ?_ | refine SL.off (gF rfl rfl rfl dC) dC ?_ | refine SL.off (Gd.off rfl rfl rfl dC) dC ?_
 first | refine SL.gu (gT rfl rfl rfl dC) (nQ rfl rfl) dC ?_ | refine SL.off (gF rfl rfl rfl dC) dC ?_ | refine SL.off (Gd.off rfl rfl rfl dC) dC ?_
 refine lU (pF I I) (SL.nT (cF I (kP (tN (SC.sR (lU (fA uT40 I zT38 I) (lK (qL (v:=.slice xp 3 xd) iT38 I (cO 1 I I)) (lU (iA uT38 zT42 I I hbx dC (show (0 : Int) < ((3 : Nat) : Int) by decide)) ?_))))))))
 refine lK (eA (a:=⟨4,1⟩) iT42 zT42 I hxs3.rd I) (lU (SU.build I (buildS42 4 1)) (lU (SU.eqlSideT ⟨4,1⟩ I I) (lM I (lY I I I (fA uT40 I zT38 I) (SL.gq (gT I I I dC) (qL (v:=.slice xp 3 xd) iT38 I (cO 1 I I)) dC (lY I I I (iA uT38 zT42 I I hbx dC (show (1 : Int) < ((3 : Nat) : Int) by decide)) ?_))))))
 refine SL.gq (gT I I I dC) (eA (a:=⟨5,-1⟩) iT42 zT42 I hxs3.rd I) dC (lY I I I (SU.build I (buildS42 5 (-1))) (lY I I I (SU.eqlSideT ⟨5,-1⟩ I I) (lU (pT I I) (lM I (lY I I I (fA uT40 I zT38 I) (SL.gq (gT I I I dC) (qL (v:=.slice xp 3 xd) iT38 I (cO 1 I I)) dC (lY I I I (iA uT38 zT42 I I hbx dC (show (2 : Int) < ((3 : Nat) : Int) by decide)) ?_)))))))
 refine SL.gq (gT I I I dC) (eA (a:=⟨6,1⟩) iT42 zT42 I hxs3.rd I) dC (lY I I I (SU.build I (buildS42 6 1)) (lY I I I (SU.eqlSideT ⟨6,1⟩ I I) (lU (pT I I) (lM I (lY I I I (fA uT40 I zT38 I) (SL.gq (gT I I I dC) (qL (v:=.slice yp 2 yd) iT38 I (cO 0 I I)) dC (lY I I I (iA uT38 zT42 I I hby dC (show (0 : Int) < ((2 : Nat) : Int) by decide)) ?_)))))))
 refine SL.gq (gT I I I dC) (eA (a:=⟨1,-1⟩) iT42 zT42 I hys.rd I) dC (lY I I I (SU.build I (buildS42 1 (-1))) (lY I I I (SU.eqlSideT ⟨1,-1⟩ I I) (lU (pT I I) (lA I (SL.nT (SC.sR (lK (qV 2 iT31 zT31 I I I) (lW (cL call28 I (copy_own E g3 _ _ triL hu3 tri_fits)) ?_))))))))
 rintro _ _ _ ⟨rfl,u1,rs1,rfl,hO1,rfl⟩
 obtain ⟨p1,p2,p3,p4,p5,p6,p7,d1,d2,d3,d4,d5,d6,d7,rfl⟩:=tri_rs hO1
 refine SL.facts fun ⟨w0,hw0⟩=>?_
 obtain ⟨pu,cu,rfl⟩:=rowA_form (i:=0) hw0 rfl
 obtain ⟨bu,cap,rfl,rfl,hcap⟩:=row_cap (i:=0) hw0 rfl (show 0 < 7 by decide)
 have hcap7 : 7 ≤ cap + 1:=hcap
 clear hw0 w0
 refine SL.bx (aL zeroValue31) fun b7=>?_
 refine SL.O2 (sK 0 zT31 I I I I I sB) ?_
 refine SL.nT (sQ ?_)
 refine dW [6,7,8] [(0,2),(1,1),(2,2),(3,2),(4,1),(5,2),(6,0),(7,0),(8,0)] Tryz.mixed (by kernel_rfl) ?_
 refine pU I (fA uT31 I zT29 I) (pK I (qL iT29 I (cO 0 I I)) (pU I (SU.sliceH uT29 zT40 I I dC oM) (pU I (fA uT31 I zT29 I) (pK I (qL iT29 I (cO 0 I I)) (pU I (SU.sliceL uT29 zT40 I I dC (show (5 : Int) ≤ ((7 : Nat) : Int) by decide)) ?_)))))
 refine SP.o I (SO.cutA (j:=4) (n:=7) (c:=cap + 1) (p:=some ⟨bu,0,none⟩) (e:=encCell) 1 sty29 I I I I (show 4 < 7 by decide)) dC (.inl dC) ?_
 rintro _ _ _ ⟨rfl,rfl,rfl⟩
 refine oU I (fA uT31 I zT29 I) dC (.inl dC) (SP.on I (sK 0 zT29 I I I I I sB) (.inl dC) ?_)
 rintro _ _ _ ⟨rfl,rfl⟩
 refine pN (tN (sQ ?_))
 refine SC.to (g':=g3) (s':=rowA encCell 40 (.slice (some ⟨bu,0,none⟩) 6 (cap + 1)) ((triRs p1 p2 p3 p4 p5 p6 p7 d1 d2 d3 d4 d5 d6 d7).eraseIdx 4) :: (ownS lessL ((triRs p1 p2 p3 p4 p5 p6 p7 d1 d2 d3 d4 d5 d6 d7).eraseIdx 4) ++ (pt b7 (.cells #[.slice (some ⟨bu,0,none⟩) 6 (cap + 1)] 31 (0,0)) :: pt b4 (.cells #[vi 4,vi 1,.slice yp 2 yd] 40 (0,0)) :: pt b2 (.cells #[vi 7,vi 2,.slice xp 3 xd] 40 (0,0)) :: pt b1 (.cells #[.slice q triL.length d] 31 (0,0)) :: s))) (fun w hw=>less_at hw) ?_
 refine SC.freezeCells (less_o _ _ _ _ _ _ _ _ _ _ _ _ _ _) fun g4 hle4 hless=>?_
 have hu4:=hu3.mono hle4
 refine rG (lK (qV 3 iT31 zT31 I I I) (lW (cL call28 I (copy_own E g4 _ _ triL hu4 tri_fits)) ?_))
 rintro _ _ _ ⟨rfl,u2,rs2,rfl,hO2,rfl⟩
 obtain ⟨r1,r2,r3,r4,r5,r6,r7,e1,e2,e3,e4,e5,e6,e7,rfl⟩:=tri_rs hO2
 refine SL.facts fun ⟨w0,hw0⟩=>?_
 obtain ⟨pv,cv,rfl⟩:=rowA_form (i:=0) hw0 rfl
 obtain ⟨bv,cap2,rfl,rfl,hcap2⟩:=row_cap (i:=0) hw0 rfl (show 0 < 7 by decide)
 have hb7 : based (.slice r7 3 e7) = true:=(by obtain ⟨b0,c0,he⟩:=rowA_based (i:=7) hw0 rfl (show 0 < 3 by decide); rw [show Value.slice r7 3 e7 = _ from he]; rfl)
 clear hw0 w0
 refine SL.bx (aL zeroValue31) fun b8=>?_
 refine SL.O2 (sK 0 zT31 I I I I I sB) ?_
 refine SL.nT (sQ (sQ ?_))
 refine SC.to (g':=g4) (s':=pt b8 (.cells #[.slice (some ⟨bv,0,none⟩) 7 (cap2 + 1)] 31 (0,0)) :: rowA encCell 40 (.slice (some ⟨bv,0,none⟩) 7 (cap2 + 1)) (triRs r1 r2 r3 r4 r5 r6 r7 e1 e2 e3 e4 e5 e6 e7) :: (ownS triL (triRs r1 r2 r3 r4 r5 r6 r7 e1 e2 e3 e4 e5 e6 e7) ++ (pt b7 (.cells #[.slice (some ⟨bu,0,none⟩) 6 (cap + 1)] 31 (0,0)) :: pt b4 (.cells #[vi 4,vi 1,.slice yp 2 yd] 40 (0,0)) :: pt b2 (.cells #[vi 7,vi 2,.slice xp 3 xd] 40 (0,0)) :: pt b1 (.cells #[.slice q triL.length d] 31 (0,0)) :: s))) (fun w hw=>hw) ?_
 refine rG (lU (fA uT31 I zT29 I) (lK (qL (v:=.slice (some ⟨bv,0,none⟩) 7 (cap2 + 1)) iT29 I (cO 0 I I)) (lU (iA uT29 zT40 I I I dC (show (6 : Int) < ((7 : Nat) : Int) by decide)) ?_)))
 refine lU (fC (v:=.slice (some ⟨bv,0,none⟩) 7 (cap2 + 1)) (o:=18) uT40 I zT38 I I) (lK (pA (e:=encCell) (a:=⟨7,2,⟨r7,3,e7⟩⟩) (j:=6) (o:=2) (u:=.slice r7 3 e7) iT38 I (Rd.rowA (v:=.slice (some ⟨bv,0,none⟩) 7 (cap2 + 1)) 1 I) I I) (lU (eN uT38 I) (lU (nQ I I) (SL.nT (cF I (kP (tN (SC.sR (lU (fA uT31 I zT29 I) (lK (qL (v:=.slice (some ⟨bv,0,none⟩) 7 (cap2 + 1)) iT29 I (cO 0 I I)) (lU (iA uT29 zT40 I I I dC (show (6 : Int) < ((7 : Nat) : Int) by decide)) ?_)))))))))))
 refine lU (fC (v:=.slice (some ⟨bv,0,none⟩) 7 (cap2 + 1)) (o:=18) uT40 I zT38 I I) (lK (pA (e:=encCell) (a:=⟨7,2,⟨r7,3,e7⟩⟩) (j:=6) (o:=2) (u:=.slice r7 3 e7) iT38 I (Rd.rowA (v:=.slice (some ⟨bv,0,none⟩) 7 (cap2 + 1)) 1 I) I I) (lU (iA uT38 zT42 I I hb7 dC (show (1 : Int) < ((3 : Nat) : Int) by decide)) ?_))
 refine lU (fC (v:=.slice r7 3 e7) (o:=2) uT42 I zT3 I hb7) (SL.O2 (SO.partA (e:=encSide) (a:=⟨5,-1⟩) (j:=1) (o:=1) 8 ⟨5,1⟩ zT3 I I I I I I dC I) (SL.nT (sQ ?_)))
 refine SC.to (g':=g4) (s':=rowA encCell 40 (.slice (some ⟨bv,0,none⟩) 7 (cap2 + 1)) (triRs r1 r2 r3 r4 r5 r6 r7 e1 e2 e3 e4 e5 e6 e7) :: (ownS turnL (triRs r1 r2 r3 r4 r5 r6 r7 e1 e2 e3 e4 e5 e6 e7) ++ (pt b8 (.cells #[.slice (some ⟨bv,0,none⟩) 7 (cap2 + 1)] 31 (0,0)) :: pt b7 (.cells #[.slice (some ⟨bu,0,none⟩) 6 (cap + 1)] 31 (0,0)) :: pt b4 (.cells #[vi 4,vi 1,.slice yp 2 yd] 40 (0,0)) :: pt b2 (.cells #[vi 7,vi 2,.slice xp 3 xd] 40 (0,0)) :: pt b1 (.cells #[.slice q triL.length d] 31 (0,0)) :: s))) (fun w hw=>turn_at hw) ?_
 refine SC.freezeCells (turn_o _ _ _ _ _ _ _ _ _ _ _ _ _ _) fun g5 hle5 hturn=>?_
 have hu5:=hu4.mono hle5
 refine rG (lK (qV 1 iT31 zT31 I I I) (lW (cL call13 I (check_spec E g5 _ _ lessL (hless.mono hle5) less_fits)) ?_))
 rintro _ _ _ ⟨rfl,rfl,rfl⟩
 rw [less_check]
 refine lM I (lU (xT I I) (lU (xT I I) (lA I (lA I (SL.nT (SC.sR (lK (qV 0 iT31 zT31 I I I) (lW (cL call13 I (check_spec E g5 _ _ turnL hturn turn_fits)) ?_))))))))
 rintro _ _ _ ⟨rfl,rfl,rfl⟩
 rw [turn_check]
 refine lM I (lU (xT I I) (lU (xT I I) (lA I (lA I (SL.nT (SC.sR (lK (qV 4 iT31 zT31 I I I) (lW (cL call13 I (check_spec E g5 _ _ triL hu5 tri_fits)) ?_))))))))
 rintro _ _ _ ⟨rfl,rfl,rfl⟩
 rw [tri_check]
 refine lM I (lU (xT I I) (lU (xT I I) (lA I (lA I (SL.nT (SC.sR (lM I (lU (eQ I I) (lM I (lY I I I (mV I) (lY I I I (eQ I I) (lU (pT I I) (lM I (lY I I I (mV I) (lY I I I (eQ I I) (lU (pT I I) (lM I (lY I I I (mV I) (lY I I I (eQ I I) (lU (pT I I) (lM I (lY I I I (mV I) (lY I I I (eQ I I) (lU (pT I I) (lM I (lY I I I (mV I) (lY I I I (eQ I I) ?_)))))))))))))))))))))))))))
 refine lU (pT I I) (lA I (SL.nT (SC.sR (lK (qV 4 iT31 zT31 I I I) (lW (cL call19 I (tops_spec E g5 _ _ triL hu5 tri_fits)) ?_)))))
 rintro v150 g6 _ ⟨rfl,hle6,h150⟩
 rw [tri_tops] at h150
 have hu6:=hu5.mono hle6
 refine lW (bS sty27 I I I (szs_mk ⟨I,trivial⟩) dC) ?_
 rintro _ _ _ ⟨b151,rfl,rfl,rfl⟩
 refine SL.freeze fun g7 hle7 hb151=>?_
 have h151 : Ints g7 (.slice (some ⟨b151,0,none⟩) 1 1) [7]:=SlA.lit hb151 rfl rfl
 have hu7:=hu6.mono hle7
 refine lW (cL call18 I (ints_spec E g7 _ _ _ [7] [7] (h150.mono hle7) h151 dC)) ?_
 rintro _ _ _ ⟨rfl,rfl,rfl⟩
 rw [show decide (([7] : List Int) = [7]) = true from decide_eq_true rfl]
 refine lM I (SL.gq (gT I I I dC) (qV 4 iT31 zT31 I I I) dC (SL.go (gT I I I dC) (cL call29 I (above_spec E g7 _ _ triL 2 hu7 tri_fits)) dC ?_))
 rintro v155 g8 _ ⟨rfl,hle8,h155⟩
 rw [tri_above] at h155
 have hu8:=hu7.mono hle8
 refine SL.go (gT I I I dC) (bS sty27 I I I (szs_mk sB) dC) dC ?_
 rintro _ _ _ ⟨b156,rfl,rfl,rfl⟩
 refine SL.freeze fun g9 hle9 hb156=>?_
 have h156 : Ints g9 (.slice (some ⟨b156,0,none⟩) 2 2) [4,6]:=SlA.lit hb156 rfl rfl
 have hu9:=hu8.mono hle9
 refine SL.go (gT I I I dC) (cL call18 I (ints_spec E g9 _ _ _ [4,6] [4,6] (h155.mono hle9) h156 dC)) dC ?_
 rintro _ _ _ ⟨rfl,rfl,rfl⟩
 rw [show decide (([4,6] : List Int) = [4,6]) = true from decide_eq_true rfl]
 refine lU (pT I I) (lM I (SL.gq (gT I I I dC) (qV 4 iT31 zT31 I I I) dC (SL.go (gT I I I dC) (bS sty27 I I I (szs_mk ⟨I,trivial⟩) dC) dC ?_)))
 rintro _ _ _ ⟨b161,rfl,rfl,rfl⟩
 refine SL.freeze fun g10 hle10 hb161=>?_
 have h161 : Ints g10 (.slice (some ⟨b161,0,none⟩) 1 1) [4]:=SlA.lit hb161 rfl rfl
 have hu10:=hu9.mono hle10
 refine SL.go (gT I I I dC) (cL call30 I (closureTop E hE g10 _ _ _ triL [4] hu10 tri_fits h161 dC tri_ids)) dC ?_
 rintro v162 g11 _ ⟨rfl,hle11,h162⟩
 rw [tri_closure] at h162
 have hu11:=hu10.mono hle11
 refine SL.go (gT I I I dC) (bS sty27 I I I (szs_mk sB) dC) dC ?_
 rintro _ _ _ ⟨b163,rfl,rfl,rfl⟩
 refine SL.freeze fun g12 hle12 hb163=>?_
 have h163 : Ints g12 (.slice (some ⟨b163,0,none⟩) 3 3) [1,2,4]:=SlA.lit hb163 rfl rfl
 have hu12:=hu11.mono hle12
 refine SL.go (gT I I I dC) (cL call18 I (ints_spec E g12 _ _ _ [1,2,4] [1,2,4] (h162.mono hle12) h163 dC)) dC ?_
 rintro _ _ _ ⟨rfl,rfl,rfl⟩
 rw [show decide (([1,2,4] : List Int) = [1,2,4]) = true from decide_eq_true rfl]
 refine lU (pT I I) (lA I (SL.nT (SC.sR (lW (bS sty27 I I I (szs_mk sB) dC) ?_))))
 rintro _ _ _ ⟨b166,rfl,rfl,rfl⟩
 refine SL.freeze fun g13 hle13 hb166=>?_
 have h166 : Ints g13 (.slice (some ⟨b166,0,none⟩) 2 2) [0,1]:=SlA.lit hb166 rfl rfl
 have hu13:=hu12.mono hle13
 refine lW (bS sty22 I I I (szs_mk ⟨I,trivial⟩) dC) ?_
 rintro _ _ _ ⟨b167,rfl,rfl,rfl⟩
 refine SL.freeze fun g14 hle14 hb167=>?_
 have hlit : Lists g14 (.slice (some ⟨b167,0,none⟩) 1 1) [[0,1]]:=⟨[svOf (.slice (some ⟨b166,0,none⟩) 2 2)],SlA.lit hb167 rfl rfl,⟨h166.mono hle14,trivial⟩⟩
 have hu14:=hu13.mono hle14
 refine lW (cL call31 I (simplicial_spec E g14 _ _ _ hlit dC dC)) ?_
 rintro _ g15 _ ⟨rfl,hle15,ue,rfl,hedge⟩
 rw [simp_edge] at hedge
 obtain ⟨qe,de,rfl⟩:=hedge.form
 have hu15:=hu14.mono hle15
 refine SL.bx (aL zeroValue31) fun b17=>?_
 refine SL.O2 (sK 0 zT31 I I I I I sB) ?_
 refine SL.nT (SC.sR (lK (qV 0 iT31 zT31 I I I) (lK (qV 0 iT31 zT31 I I I) (lW (cL call32 I (product_spec E g15 _ _ _ edgeL edgeL hedge hedge edge_fits edge_fits)) ?_))))
 rintro _ g16 _ ⟨rfl,hle16,us,rfl,hsq0⟩
 have hsq : Cells g16 us squareL:=hsq0
 obtain ⟨qs,ds,rfl⟩:=hsq.form
 rw [square_len]
 rw [square_len] at hsq
 have hu16:=hu15.mono hle16
 refine SL.bx (aL zeroValue31) fun b18=>?_
 refine SL.O2 (sK 0 zT31 I I I I I sB) ?_
 refine SL.nT (SC.sR (lK (qV 0 iT31 zT31 I I I) (lW (cL call27 I (find_spec E g16 _ _ squareL 9 hsq square_fits)) ?_)))
 rintro _ g17 _ ⟨rfl,hle17,z,rfl,hz⟩
 rw [square_find] at hz
 rw [square_find]
 obtain ⟨zp,zd,rfl,hzs⟩:=cellR_form (c:=⟨9,2,[⟨3,-1⟩,⟨6,1⟩,⟨7,1⟩,⟨8,-1⟩]⟩) hz
 have hbz : based (.slice zp 4 zd) = true:=hzs.based dC
 have hu17:=hu16.mono hle17
 refine lM I (lU (xT I I) (lU (xT I I) (SL.bx (aL zeroValue40) fun b19=>?_)))
 refine SL.O2 (sK 0 zT40 I I I I I sB) ?_
 refine lA I (SL.nT (sQ ?_))
 refine SC.to (g':=g17) (s':=pt b19 (.cells #[vi 9,vi 2,.slice zp 4 zd] 40 (0,0)) :: pt b18 (.cells #[.slice qs 9 ds] 31 (0,0)) :: pt b17 (.cells #[.slice qe edgeL.length de] 31 (0,0)) :: pt b8 (.cells #[.slice (some ⟨bv,0,none⟩) 7 (cap2 + 1)] 31 (0,0)) :: pt b7 (.cells #[.slice (some ⟨bu,0,none⟩) 6 (cap + 1)] 31 (0,0)) :: pt b4 (.cells #[vi 4,vi 1,.slice yp 2 yd] 40 (0,0)) :: pt b2 (.cells #[vi 7,vi 2,.slice xp 3 xd] 40 (0,0)) :: pt b1 (.cells #[.slice q triL.length d] 31 (0,0)) :: s) (fun w hw=>hw) ?_
 refine rG (lM I (lM I (lY I I I (mV I) (lU (pT I I) (lM I (lY I I I (mV I) (lU (pT I I) (lM I (SL.gq (gT I I I dC) (qV 7 iT31 zT31 I I I) dC (SL.go (gT I I I dC) (cL call33 I (euler_spec E g17 _ _ triL hu17 tri_fits)) dC ?_))))))))))
 rintro _ _ _ ⟨rfl,rfl,rfl⟩
 rw [tri_euler]
 refine lY I I I (eQ I I) (lU (pT I I) (lM I (lY I I I (fA uT31 I zT29 I) (SL.gq (gT I I I dC) (qL (v:=.slice qs 9 ds) iT29 I (cO 1 I I)) dC (lY I I I (eN uT29 I) (lY I I I (eQ I I) (lU (pT I I) (lM I (lY I I I (mV I) (lU (pT I I) (lM I (lY I I I (fA uT40 I zT38 I) (SL.gq (gT I I I dC) (qL (v:=.slice zp 4 zd) iT38 I (cO 0 I I)) dC (lY I I I (eN uT38 I) (lY I I I (eQ I I) (lU (pT I I) (lM I (lY I I I (fA uT40 I zT38 I) (SL.gq (gT I I I dC) (qL (v:=.slice zp 4 zd) iT38 I (cO 0 I I)) dC (lY I I I (iA uT38 zT42 I I hbz dC (show (0 : Int) < ((4 : Nat) : Int) by decide)) ?_))))))))))))))))))))
 refine SL.gq (gT I I I dC) (eA (a:=⟨3,-1⟩) iT42 zT42 I hzs.rd I) dC (lY I I I (SU.build I (buildS42 3 (-1))) (lY I I I (SU.eqlSideT ⟨3,-1⟩ I I) (lU (pT I I) (lM I (lY I I I (fA uT40 I zT38 I) (SL.gq (gT I I I dC) (qL (v:=.slice zp 4 zd) iT38 I (cO 0 I I)) dC (lY I I I (iA uT38 zT42 I I hbz dC (show (3 : Int) < ((4 : Nat) : Int) by decide)) ?_)))))))
 refine SL.gq (gT I I I dC) (eA (a:=⟨8,-1⟩) iT42 zT42 I hzs.rd I) dC (lY I I I (SU.build I (buildS42 8 (-1))) (lY I I I (SU.eqlSideT ⟨8,-1⟩ I I) (lU (pT I I) (lA I (SL.nT (rE ?_))))))
 refine dR (s':=s) (by repeat (first | exact List.Sublist.refl _ | refine List.Sublist.cons _ ?_)) ?_
 exact ST.ret1 (.inl I) results6 I ⟨I,I,hle1.trans (hle2.trans (hle3.trans (hle4.trans (hle5.trans (hle6.trans (hle7.trans (hle8.trans (hle9.trans (hle10.trans (hle11.trans (hle12.trans (hle13.trans (hle14.trans (hle15.trans (hle16.trans hle17)))))))))))))))⟩
theorem ins_after {α : Type} {key : α → Int} {l out : List α} {x : α} {k : Nat} (hs : Srt key out) (hst : Stab key l out) (h1 : ∀ y ∈ out.take k,key y ≤ key x) (h2 : ∀ y ∈ out.drop k,key x < key y) :
  Srt key (out.take k ++ x :: out.drop k) ∧ Stab key (l ++ [x]) (out.take k ++ x :: out.drop k):=by
 have hs' : Srt key (out.take k ++ out.drop k):=by rw [List.take_append_drop]; exact hs
 have h3:=Srt.append_iff.1 hs'
 refine ⟨Srt.append_iff.2 ⟨h3.1,Srt.cons_iff.2 ⟨fun y hy=>Int.le_of_lt (h2 y hy),h3.2.1⟩,fun y hy z hz=>?_⟩,?_⟩
 ·rcases List.mem_cons.1 hz with rfl | hz
  ·exact h1 y hy
  ·exact h3.2.2 y hy z hz
 ·have h4 : Stab key (l ++ [x]) (out ++ [x]):=hst.append (Stab.refl [x])
  have h5 : Stab key (out.drop k ++ [x]) ([x] ++ out.drop k):=Stab.swap (fun y hy z hz=>by simp at hz; subst hz; have:=h2 y hy; omega)
  have h6:=Stab.append (Stab.refl (key:=key) (out.take k)) h5
  have h7 : out ++ [x] = out.take k ++ (out.drop k ++ [x]):=by rw [← List.append_assoc,List.take_append_drop]
  rw [h7] at h4
  simpa using h4.trans h6
theorem srt_drop_gt {α : Type} {key : α → Int} {out : List α} {c : Int} {k : Nat} (hs : Srt key out) (hk : k < out.length) (h : c < key out[k]) : ∀ y ∈ out.drop k,c < key y:=by
 rw [List.drop_eq_getElem_cons hk]
 intro y hy
 have h1 : Srt key (out.drop k):=List.Pairwise.sublist (List.drop_sublist k out) hs
 rw [List.drop_eq_getElem_cons hk] at h1
 rcases List.mem_cons.1 hy with rfl | hy
 ·exact h
 ·have:=(Srt.cons_iff.1 h1).1 y hy
  omega
theorem sides_spec (E : World) (g : PH) (s : Own) (v : Value) (l : List Side) (hv : SlA encSide g v l) (hl : l.length < 1099511627776) :
  Ctr Tryz.prog E 101 #[v] g s (fun r g' s'=>s = s' ∧ Le g g' ∧ SlA encSide g' r (sortBy Side.cell l)):=by
 obtain ⟨p,c,rfl⟩:=SlA.form hv
 refine Ctr.of (args:=[.slice p l.length c]) func101 I ntmps101 (bE I) ?_
 refine SC.sR (lA I (SL.nT (SC.sR (lA I (SL.nT (sQ (SC.sR (lA I (SL.nT (bK ?_))))))))))
 refine oP (ι:=PH × Value × List Side × Nat) (fun i=>[(0,.slice p l.length c),(3,i.2.1),(4,vi i.2.2.2)]) (fun i=>i.1) (fun _=>s)
  (fun i=>Le g i.1 ∧ SlA encSide i.1 i.2.1 i.2.2.1 ∧ i.2.2.2 ≤ l.length ∧ Srt Side.cell i.2.2.1 ∧ Stab Side.cell (l.take i.2.2.2) i.2.2.1) (fun i=>l.length - i.2.2.2)
  (g,.slice none 0 0,[],0) sB rfl rfl ⟨Le.refl g,Sl.nil g _,Nat.zero_le _,Srt.nil,Stab.refl _⟩ ?_
 rintro ⟨g1,ov,out,i⟩ ⟨hle,hov,hi,hsrt,hst⟩
 dsimp only at hle hov hi hsrt hst ⊢
 have hol : out.length = i:=by have:=hst.1; rw [List.length_take] at this; omega
 obtain ⟨q,d,rfl⟩:=SlA.form hov
 have hqc:=(SlA.cap hov).2
 refine sQ (SC.sR (lM I (lM I (lU (eN uT38 I) (lU (lS I I) (SL.nT ?_))))))
 refine iP I (fun hlt=>?_) (fun hlt=>?_)
 ·have hil : i < l.length:=oM
  have hb1:=SlA.based (hv.mono hle) oM
  have hgi : l[((i : Nat) : Int).toNat]? = some l[i]:=gE hil
  have htk : l.take (i + 1) = l.take i ++ [l[i]]:=tS hil
  generalize l[i] = x at *
  refine kP (tN (sQ (bK (SC.sR (lA I (SL.nT ?_))))))
  refine SC.cut (ι:=Nat) (fun k=>[(0,.slice p l.length c),(3,.slice q out.length d),(4,vi i),(5,vi k)]) (fun _=>g1) (fun _=>s) (fun k=>k ≤ out.length ∧ (∀ y ∈ out.take k,y.cell ≤ x.cell) ∧ ∀ y ∈ out.drop k,x.cell < y.cell) ?_ ?_
  ·refine bK ?_
   refine oP (ι:=Nat) (fun k=>[(0,.slice p l.length c),(3,.slice q out.length d),(4,vi i),(5,vi k)]) (fun _=>g1) (fun _=>s) (fun k=>k ≤ out.length ∧ ∀ y ∈ out.take k,y.cell ≤ x.cell) (fun k=>out.length - k) 0
    sB rfl rfl ⟨Nat.zero_le _,by simp⟩ ?_
   rintro k ⟨hk,htake⟩
   by_cases hin : (k : Int) < (out.length : Int)
   ·have hkl : k < out.length:=oM
    have hb2:=SlA.based hov oM
    have hd : decide ((k : Int) < (out.length : Int)) = true:=decide_eq_true hin
    refine sQ (sQ ?_)
    refine dW [] [(0,2),(1,2),(2,2),(3,2),(4,2),(5,2),(6,2),(7,2),(8,2),(9,1),(10,2),(11,2),(12,2),(13,2),(14,1),(15,2),(16,2)] Tryz.mixed (by kernel_rfl) ?_
    refine pU I (mV I) (pU I (mV I) (pU I (eN uT38 I) (pU I (SU.eq (lS I I) (congrArg vb hd)) (pU I (mV I) (SP.gu I (gT I I I dC) (mV I) dC (SP.gu I (gT I I I dC) (mV I) dC (SP.gu I (gT I I I dC) (iA uT38 zT42 I I hb2 oM sL) dC (SP.gu I (gT I I I dC) (fC uT42 I zT3 I hb2) dC ?_))))))))
    refine SP.gq I (gT I I I dC) (pA (o:=0) iT3 I hov.rd (gE hkl) I) dC ?_
    refine SP.gu I (gT I I I dC) (mV I) dC (SP.gu I (gT I I I dC) (mV I) dC (SP.gu I (gT I I I dC) (iA uT38 zT42 I I hb1 oM sL) dC (SP.gu I (gT I I I dC) (fC uT42 I zT3 I hb1) dC (SP.gq I (gT I I I dC) (pA (o:=0) iT3 I (hv.mono hle).rd hgi I) dC (SP.gu I (gT I I I dC) (SU.leq I I) dC (pU I (pT I I) (pN (tN ?_))))))))
    refine iP I (fun hc=>?_) (fun hc=>?_)
    ·refine kP (tN (bK (rG (lM I (lU (aD I I oM) (lA I (nL (bN ?_))))))))
     exact gA (k + 1) sB I I ⟨oM,by
      rw [tS hkl]
      intro y hy
      rcases List.mem_append.1 hy with h | h
      ·exact htake y h
      ·simp at h; subst h; exact hc⟩ oM
    ·refine xI (tX (tX (bX ?_)))
     exact ST.mid k sB I I ⟨hk,htake,srt_drop_gt hsrt hkl oM⟩
   ·have hd : decide ((k : Int) < (out.length : Int)) = false:=decide_eq_false hin
    refine sQ (sQ ?_)
    refine dW [] [(0,2),(1,2),(2,2),(3,2),(4,2),(5,2),(6,2),(7,2),(8,2),(9,1),(10,2),(11,2),(12,2),(13,2),(14,1),(15,2),(16,2)] Tryz.mixed (by kernel_rfl) ?_
    refine pU I (mV I) (pU I (mV I) (pU I (eN uT38 I) (pU I (SU.eq (lS I I) (congrArg vb hd)) (pU I (mV I) (fP I (gF I I I dC) dC (fP I (gF I I I dC) dC (fP I (gF I I I dC) dC (fP I (gF I I I dC) dC (SP.off1 I (gF I I I dC) dC (fP I (gF I I I dC) dC (fP I (gF I I I dC) dC (fP I (gF I I I dC) dC (fP I (gF I I I dC) dC (SP.off1 I (gF I I I dC) dC (fP I (gF I I I dC) dC (pU I (pF I I) (pN (tN (cF I (xI (tX (tX (bX ?_)))))))))))))))))))))))
    exact ST.mid k sB I I ⟨hk,htake,by rw [List.drop_eq_nil_of_le oM]; simp⟩
  ·rintro k ⟨hk,hk1,hk2⟩
   have hnew:=ins_after hsrt hst hk1 hk2
   have hc1:=SlA.cut hov (l:=k) (m:=out.length) hk (lR _)
   have hc2:=SlA.cut hov (l:=0) (m:=k) (Nat.zero_le _) hk
   rw [tL (by rw [List.length_drop]; exact lR _)] at hc1
   rw [List.drop_zero,Nat.sub_zero] at hc2
   refine sQ ?_
   refine dW [8] [(0,2),(1,2),(2,2),(3,1),(5,2),(6,2),(7,2),(4,0),(8,0),(9,2)] Tryz.mixed (by kernel_rfl) ?_
   refine pU rfl (mV rfl) (pU rfl (mV rfl) (pU rfl (iA uT38 zT42 rfl rfl hb1 oM sL) (pK rfl (eA iT42 zT42 rfl (hv.mono hle).rd hgi) (pU rfl (mV rfl) (pU rfl (mV rfl) (pU rfl (SU.sliceL uT38 zT42 rfl rfl oM oM) (SP.o rfl (bS sty38 rfl rfl rfl (szs_mk ⟨rfl,trivial⟩) dC) dC (.inr (by rintro _ _ _ ⟨b36,rfl,rfl,rfl⟩; exact ⟨by exact Le.refl _,(by exact .cons _ (.refl _))⟩)) ?_)))))))
   rintro _ _ _ ⟨b36,rfl,rfl,rfl⟩
   refine SP.to (fun w hw=>At.litRow (e:=encSide) (l:=[x]) (n:=0) hw I I dC) ?_
   refine SP.o rfl (aQ (e:=encSide) 0 sty38 rfl rfl rfl hc1 (by rw [List.length_drop]; (first | with_reducible rfl | ((try dsimp only); (try simp only [List.length_append,List.length_cons,List.length_nil,List.length_singleton,List.length_take,List.length_drop]) <;> omega))) (by rw [List.length_drop]; (first | with_reducible rfl | ((try dsimp only); (try simp only [List.length_append,List.length_cons,List.length_nil,List.length_singleton,List.length_take,List.length_drop]) <;> omega)))) dC (.inl dC) ?_
   rintro v40 _ _ ⟨rfl,rfl⟩
   refine pU I (aS I) (pN (tN (fS fun g2 hle2 hs2=>?_)))
   have hrest : SlA encSide g2 v40 ([x] ++ out.drop k):=hs2
   refine rG (lW (bS sty38 I I I (szs_mk trivial) dC) ?_)
   rintro _ _ _ ⟨b41,rfl,rfl,rfl⟩
   refine SL.emptyRow 42 2 (some ⟨b41,0,none⟩) (lM rfl (lM rfl (lU (SU.sliceH uT38 zT42 rfl rfl oM oM) (lW (aQ (e:=encSide) (l:=[]) 0 sty38 rfl rfl rfl (hc2.mono hle2) (by rw [List.length_take]; (first | with_reducible rfl | ((try dsimp only); (try simp only [List.length_append,List.length_cons,List.length_nil,List.length_singleton,List.length_take,List.length_drop]) <;> omega))) (by rw [List.length_take]; (first | with_reducible rfl | ((try dsimp only); (try simp only [List.length_append,List.length_cons,List.length_nil,List.length_singleton,List.length_take,List.length_drop]) <;> omega)))) ?_))))
   rintro v45 _ _ ⟨rfl,rfl⟩
   refine lM I (lW (aQ (e:=encSide) 0 sty38 I I I hrest lN lN) ?_)
   rintro v47 _ _ ⟨rfl,rfl⟩
   refine lA I (nL (bN (tN (rG (lM I (lU (aD I I oM) (lA I (nL (fT fun g3 hle3 hs3=>?_)))))))))
   refine dR (s':=s) (.cons _ (.refl _)) ?_
   have hres : SlA encSide g3 v47 (out.take k ++ x :: out.drop k):=by have h : SlA encSide g3 v47 ([] ++ out.take k ++ ([x] ++ out.drop k)):=hs3; simpa using h
   exact gA (g3,v47,out.take k ++ x :: out.drop k,i + 1) sB I I ⟨hle.trans (hle2.trans hle3),hres,lN,hnew.1,by dsimp only; rw [htk]; exact hnew.2⟩ lN
 ·have hii : l.take i = l:=tL oM
  rw [hii] at hst
  refine xI (tX (tX (bX (tN (SC.sR (lM I (lA I (SL.nT (rE ?_)))))))))
  exact ST.ret1 (.inl I) results101 I ⟨I,hle,by rw [← eq_sortBy hsrt hst]; exact hov⟩
theorem All2.drop {α β : Type} {R : α → β → Prop} : ∀ {l : List α} {m : List β} (k : Nat),All2 R l m → All2 R (l.drop k) (m.drop k)
 | _,_,0,h=>by simpa using h
 | [],[],k + 1,_=>trivial
 | _ :: _,_ :: _,k + 1,h=>by simpa using All2.drop k h.2
 | [],_ :: _,_ + 1,h=>h.elim
 | _ :: _,[],_ + 1,h=>h.elim
theorem All2.take {α β : Type} {R : α → β → Prop} : ∀ {l : List α} {m : List β} (k : Nat),All2 R l m → All2 R (l.take k) (m.take k)
 | _,_,0,_=>by simp; trivial
 | [],[],k + 1,_=>trivial
 | _ :: _,_ :: _,k + 1,h=>⟨h.1,All2.take k h.2⟩
 | [],_ :: _,_ + 1,h=>h.elim
 | _ :: _,[],_ + 1,h=>h.elim
theorem Cells.cut {g : PH} {p : Option Addr} {c a b n : Nat} {l : List Cl} (h : Cells g (.slice p n c) l) (ha : a ≤ b) (hb : b ≤ l.length) : Cells g (sliced p a b c 3) ((l.drop a).take (b - a)):=by
 obtain ⟨rs,h1,h2⟩:=h
 have hl:=h2.length
 have hn:=(SlA.cap h1).1
 subst hn
 exact ⟨_,SlA.cut h1 ha oM,All2.take (b - a) (All2.drop a h2)⟩
theorem Cells.cap {g : PH} {p : Option Addr} {c n : Nat} {l : List Cl} (h : Cells g (.slice p n c) l) : n = l.length ∧ l.length ≤ c:=by
 obtain ⟨rs,h1,h2⟩:=h
 have:=SlA.cap h1
 rw [h2.length]
 exact ⟨this.1,this.2⟩
theorem canonC_alt (l : List Cl) : canonC l = sortBy Cl.id (l.map normC):=by
 unfold canonC
 rw [sortBy_map]
 rfl
theorem canonC_srt (l : List Cl) : Srt Cl.id (canonC l):=by rw [canonC_alt]; exact sortBy_srt _
theorem canonC_stab (l : List Cl) : Stab Cl.id (l.map normC) (canonC l):=by rw [canonC_alt]; exact sortBy_stab _
theorem Tryz.buildF40 (x y : Int) (v : Value) (hv : v.cells = #[v]) (w : World) : (Instr.build 40 #[(0,vi x),(1,vi y),(2,v)]).run Tryz.prog w = .ok (.agg #[vi x,vi y,v]) w:=by
 have hz : (Value.agg #[vi 0,vi 0,Value.slice none 0 0]).cells = #[vi 0,vi 0,.slice none 0 0]:=rfl
 have h1 : (vi x).cells = #[vi x]:=rfl
 have h2 : (vi y).cells = #[vi y]:=rfl
 simp [Instr.build,Instr.fill,hv,hz,h1,h2]
theorem half_tdiv (n : Nat) (h : n < 4611686018427387904) : IntKind.i64.wrap (((n : Nat) : Int).tdiv 2) = ((n / 2 : Nat) : Int):=by
 have h1 : ((n : Nat) : Int).tdiv 2 = ((n / 2 : Nat) : Int):=by
  rw [Int.tdiv_eq_ediv_of_nonneg oM]; simp
 rw [h1,IntWalk.i64_in _ oM]
theorem ordered_spec (E : World) : ∀ (n : Nat) (g : PH) (s : Own) (v : Value) (l : List Cl),l.length ≤ n → Cells g v l → Fits l →
  Ctr Tryz.prog E 106 #[v] g s (fun r g' s'=>s = s' ∧ Le g g' ∧ Cells g' r (canonC l)):=by
 intro n
 induction n with
 | zero =>
  intro g s v l hn hv hf
  have hl0 : l = []:=List.eq_nil_of_length_eq_zero oM
  subst hl0
  obtain ⟨p,c,rfl⟩:=hv.form
  refine Ctr.of (args:=[.slice p 0 c]) func106 I ntmps106 (bE I) ?_
  refine SC.sR (lA I (SL.nT (sQ (SC.sR (lM I (lU (eN uT29 I) (lU (eQ I I) (SL.nT ?_))))))))
  refine iP I (fun h0=>?_) (fun h0=>?_)
  ·refine SC.sR (lA I (SL.nT (rE (tR ?_))))
   exact ST.ret1 (.inl I) results106 I ⟨I,Le.refl g,[],Sl.nil g _,trivial⟩
  ·exact absurd I h0
 | succ n ih =>
  intro g s v l hn hv hf
  obtain ⟨rs,hrs,hall⟩:=hv
  have hv : Cells g v l:=⟨rs,hrs,hall⟩
  have hlen:=hall.length
  have hfl:=hf.1
  obtain ⟨p,c,rfl⟩:=hv.form
  have hcap:=(Cells.cap hv).2
  refine Ctr.of (args:=[.slice p l.length c]) func106 I ntmps106 (bE I) ?_
  refine SC.sR (lA I (SL.nT (sQ (SC.sR (lM I (lU (eN uT29 I) (lU (eQ I I) (SL.nT ?_))))))))
  refine iP I (fun h0=>?_) (fun h0=>?_)
  ·have hl0 : l = []:=List.eq_nil_of_length_eq_zero oM
   subst hl0
   refine SC.sR (lA I (SL.nT (rE (tR ?_))))
   exact ST.ret1 (.inl I) results106 I ⟨I,Le.refl g,[],Sl.nil g _,trivial⟩
  ·refine kP (tN (sQ (SC.sR (lM I (lU (eN uT29 I) (lU (eQ I I) (SL.nT ?_)))))))
   refine iP I (fun h1=>?_) (fun h1=>?_)
   ·obtain ⟨x,hx⟩ : ∃ x,l = [x]:=by
     match l,h1 with
     | [x],_=>exact ⟨x,rfl⟩
     | [],h=>simp at h
     | _ :: _ :: _,h=>simp at h; omega
    subst hx
    obtain ⟨r,rs',rfl,hr,hn'⟩:=All2.cons_left hall
    have hrs0:=All2.nil_left hn'
    subst hrs0
    obtain ⟨rp,rd,rfl,hsd⟩:=cellR_form hr
    have hb1:=hrs.based (by simp)
    have hxl:=hf.2 x (by simp)
    refine sQ ?_
    refine dW [] [(0,2),(1,2),(2,2),(3,1),(4,2),(5,2),(6,2),(7,1),(8,2),(9,2),(10,2),(11,1),(12,0),(13,2),(14,0),(15,2)] Tryz.mixed (by kernel_rfl) ?_
    refine pU I (mV I) (pU I (iA uT29 zT40 I I hb1 dC (show (0 : Int) < ((1 : Nat) : Int) by decide)) ?_)
    refine pU I (fC uT40 I zT3 I hb1) (pK I (pA (e:=encCell) (o:=0) (j:=0) (u:=vi x.id) iT3 I hrs.rd I I) (pU I (mV I) (pU I (iA uT29 zT40 I I hb1 dC (show (0 : Int) < ((1 : Nat) : Int) by decide)) ?_)))
    refine pU I (fC uT40 I zT3 I hb1) (pK I (pA (e:=encCell) (o:=1) (j:=0) (u:=vi x.dim) iT3 I hrs.rd I I) (pU I (mV I) (pU I (iA uT29 zT40 I I hb1 dC (show (0 : Int) < ((1 : Nat) : Int) by decide)) ?_)))
    refine pU rfl (fC uT40 rfl zT38 rfl hb1) (pK rfl (pA (e:=encCell) (o:=2) (j:=0) (u:=.slice rp x.sides.length rd) iT38 rfl hrs.rd rfl rfl) (SP.o rfl (cL call101 rfl (sides_spec E g _ _ x.sides hsd hxl)) dC (.inr (by rintro v24 g1 _ ⟨rfl,hle1,hs1⟩; exact ⟨by assumption,(by exact .refl _)⟩)) ?_))
    rintro v24 g1 _ ⟨rfl,hle1,hs1⟩
    obtain ⟨q,d,rfl⟩:=SlA.form hs1
    refine pU rfl (SU.build rfl (buildF40 _ _ _ rfl)) (SP.o rfl (bS sty29 rfl rfl rfl (szs_mk sB) dC) dC (.inr (by rintro _ _ _ ⟨b26,rfl,rfl,rfl⟩; exact ⟨by assumption,(by exact .cons _ (.refl _))⟩)) ?_)
    rintro _ _ _ ⟨b26,rfl,rfl,rfl⟩
    refine pU I (aS I) (pN (tN (rE (tR (ST.freeze fun g2 hle2 hb=>?_)))))
    exact ST.ret1 (.inl I) results106 I ⟨I,hle1.trans hle2,[⟨x.id,x.dim,⟨q,(sortBy Side.cell x.sides).length,d⟩⟩],SlA.lit hb I I,⟨⟨I,I,hs1.mono hle2⟩,trivial⟩⟩
   ·have hm1 : l.length / 2 < l.length:=oM
    have hm0 : 0 < l.length / 2:=oM
    have hc1:=Cells.cut hv (a:=0) (b:=l.length / 2) oM oM
    have hc2:=Cells.cut hv (a:=l.length / 2) (b:=l.length) oM oM
    rw [List.drop_zero,Nat.sub_zero] at hc1
    rw [tL (by rw [List.length_drop]; exact lR _)] at hc2
    have hf1 : Fits (l.take (l.length / 2)):=⟨by rw [List.length_take]; omega,fun c hc=>hf.2 c (List.mem_of_mem_take hc)⟩
    have hf2 : Fits (l.drop (l.length / 2)):=⟨by rw [List.length_drop]; omega,fun c hc=>hf.2 c (List.mem_of_mem_drop hc)⟩
    have hca:=canonC_length (l.take (l.length / 2))
    have hcb:=canonC_length (l.drop (l.length / 2))
    have hsa:=canonC_srt (l.take (l.length / 2))
    have hsb:=canonC_srt (l.drop (l.length / 2))
    have hst : Stab Cl.id (l.map normC) (canonC (l.take (l.length / 2)) ++ canonC (l.drop (l.length / 2))):=by
     have h2:=(canonC_stab (l.take (l.length / 2))).append (canonC_stab (l.drop (l.length / 2)))
     rwa [← List.map_append,List.take_append_drop] at h2
    rw [List.length_take] at hca
    rw [List.length_drop] at hcb
    refine kP (tN (SC.sR (lM I (lM I (lU (eN uT29 I) (lU (SU.eq (v':=vi ((l.length / 2 : Nat) : Int)) (SU.quo I I dC) (congrArg vi (half_tdiv _ oM))) (lU (SU.sliceH uT29 zT40 I I oM oM) (lW (cL call106 I (ih g _ _ (l.take (l.length / 2)) (by rw [List.length_take]; omega) hc1 hf1)) ?_))))))))
    rintro va0 g1 _ ⟨rfl,hle1,hA⟩
    refine lA I (SL.nT (SC.sR (lM I (lM I (lU (eN uT29 I) (lU (SU.eq (v':=vi ((l.length / 2 : Nat) : Int)) (SU.quo I I dC) (congrArg vi (half_tdiv _ oM))) (lU (SU.sliceL uT29 zT40 I I oM oM) (lW (cL call106 I (ih g1 _ _ (l.drop (l.length / 2)) (by rw [List.length_drop]; omega) (hc2.mono hle1) hf2)) ?_))))))))
    rintro vb0 g2 _ ⟨rfl,hle2,hB⟩
    refine lA I (SL.nT (SC.sR (lA I (SL.nT ?_))))
    generalize hA0 : canonC (l.take (l.length / 2)) = A0 at *
    generalize hB0 : canonC (l.drop (l.length / 2)) = B0 at *
    refine SC.nilRow 40 3 ?_
    refine SC.cut (ι:=Value × Value × Value × List Cl × List Cl × List Cl × List Rc) (fun i=>[(3,i.1),(4,i.2.1),(5,i.2.2.1)]) (fun _=>g2) (fun i=>rowA encCell 40 i.2.2.1 i.2.2.2.2.2.2 :: s)
     (fun i=>Cells g2 i.1 i.2.2.2.1 ∧ Cells g2 i.2.1 i.2.2.2.2.1 ∧ All2 (CellR g2) i.2.2.2.2.2.1 i.2.2.2.2.2.2 ∧ i.2.2.2.2.2.1 ++ i.2.2.2.1 ++ i.2.2.2.2.1 = canonC l) ?_ ?_
    ·refine bK ?_
     refine oP (ι:=Value × Value × Value × List Cl × List Cl × List Cl × List Cl × List Cl × List Rc) (fun i=>[(3,i.1),(4,i.2.1),(5,i.2.2.1)]) (fun _=>g2) (fun i=>rowA encCell 40 i.2.2.1 i.2.2.2.2.2.2.2.2 :: s)
      (fun i=>(Cells g2 i.1 i.2.2.2.2.1 ∧ Cells g2 i.2.1 i.2.2.2.2.2.2.1) ∧ All2 (CellR g2) i.2.2.2.2.2.2.2.1 i.2.2.2.2.2.2.2.2 ∧ A0 = i.2.2.2.1 ++ i.2.2.2.2.1 ∧ B0 = i.2.2.2.2.2.1 ++ i.2.2.2.2.2.2.1 ∧ Srt Cl.id i.2.2.2.2.2.2.2.1 ∧ Stab Cl.id (i.2.2.2.1 ++ i.2.2.2.2.2.1) i.2.2.2.2.2.2.2.1 ∧
       (∀ y ∈ i.2.2.2.2.2.2.2.1,∀ z ∈ i.2.2.2.2.1 ++ i.2.2.2.2.2.2.1,y.id ≤ z.id) ∧ (∀ y ∈ i.2.2.2.2.2.1,∀ z ∈ i.2.2.2.2.1,y.id < z.id)) (fun i=>i.2.2.2.2.1.length + i.2.2.2.2.2.2.1.length)
      (va0,vb0,.slice none 0 0,[],A0,[],B0,[],[]) sB rfl rfl ⟨⟨hA.mono hle2,hB⟩,trivial,rfl,rfl,Srt.nil,Stab.refl _,by simp,by simp⟩ ?_
     rintro ⟨va,vb1,vo,A1,A2,B1,B2,out,ro⟩ ⟨⟨hva,hvb⟩,hro,hA',hB',hso,hto,hout,hlt⟩
     dsimp only at hva hvb hro hA' hB' hso hto hout hlt ⊢
     have hol : out.length = A1.length + B1.length:=by have:=hto.1; simpa using this
     have hrol:=hro.length
     have hAl : A0.length = A1.length + A2.length:=by rw [hA']; simp
     have hBl : B0.length = B1.length + B2.length:=by rw [hB']; simp
     rw [hA'] at hsa
     rw [hB'] at hsb
     have hsa2:=(Srt.append_iff.1 hsa).2.1
     have hsb2:=(Srt.append_iff.1 hsb).2.1
     obtain ⟨pa,ca,rfl⟩:=hva.form
     obtain ⟨pb,cb,rfl⟩:=hvb.form
     have hcapa:=(Cells.cap hva).2
     have hcapb:=(Cells.cap hvb).2
     have hfin : A2 = [] ∨ B2 = [] → out ++ A2 ++ B2 = canonC l:=fun h=>by
      rw [canonC_alt]
      refine eq_sortBy ?_ ?_
      ·rw [List.append_assoc]
       refine Srt.append_iff.2 ⟨hso,?_,hout⟩
       rcases h with rfl | rfl
       ·simpa using hsb2
       ·simpa using hsa2
      ·refine hst.trans ?_
       rw [hA',hB']
       rcases h with rfl | rfl
       ·have h2:=hto.append (Stab.refl (key:=Cl.id) B2)
        simpa using h2
       ·have h3 : Stab Cl.id (A2 ++ B1) (B1 ++ A2):=Stab.swap (fun x hx y hy=>by have:=hlt y hy x hx; omega)
        have h4:=(Stab.refl (key:=Cl.id) A1).append h3
        have h5:=hto.append (Stab.refl (key:=Cl.id) A2)
        simp only [List.append_nil,List.append_assoc] at h4 h5 ⊢
        exact h4.trans h5
     cases A2 with
     | nil =>
      refine sQ (SC.sR (lM I (lU (eN uT29 I) (lU (SU.eq (v':=vb false) (gR I I) I) (lM I (lZ I I I (lZ I I I (lZ I I I (lU (pF I I) (SL.nT (cF I (xI (tX (tX (bX ?_)))))))))))))))
      exact ST.mid (_,_,vo,[],B2,out,ro) sB I I ⟨hva,hvb,hro,hfin (.inl I)⟩
     | cons x A3 =>
      have hpa : (0 : Int) < ((x :: A3).length : Int):=by simp
      cases B2 with
      | nil =>
       refine sQ (SC.sR (lM I (lU (eN uT29 I) (lU (SU.eq (v':=vb true) (gR I I) (congrArg vb (decide_eq_true hpa))) (lM I (lY I I I (mV I) (lY I I I (eN uT29 I) (lY I I I (SU.eq (v':=vb false) (gR I I) I) (lU (pT I I) (SL.nT (cF I (xI (tX (tX (bX ?_)))))))))))))))
       exact ST.mid (_,_,vo,x :: A3,[],out,ro) sB I I ⟨hva,hvb,hro,hfin (.inr I)⟩
      | cons y B3 =>
       have hpb : (0 : Int) < ((y :: B3).length : Int):=by simp
       obtain ⟨ra,hra,halla⟩:=hva
       obtain ⟨rb,hrb,hallb⟩:=hvb
       have hva : Cells g2 _ (x :: A3):=⟨ra,hra,halla⟩
       have hvb : Cells g2 _ (y :: B3):=⟨rb,hrb,hallb⟩
       have hna:=Cells.cut hva (a:=1) (b:=(x :: A3).length) (by simp) (lR _)
       have hnb:=Cells.cut hvb (a:=1) (b:=(y :: B3).length) (by simp) (lR _)
       have hda : ((x :: A3).drop 1).take ((x :: A3).length - 1) = A3:=by simp
       have hdb : ((y :: B3).drop 1).take ((y :: B3).length - 1) = B3:=by simp
       rw [hda] at hna
       rw [hdb] at hnb
       obtain ⟨x',ra',rfl,hx,_⟩:=All2.cons_left halla
       obtain ⟨y',rb',rfl,hy,_⟩:=All2.cons_left hallb
       have hba:=hra.based (by simp)
       have hbb:=hrb.based (by simp)
       have hlen3 : A3.length + 1 + (B3.length + 1) + out.length ≤ l.length:=by simp only [List.length_cons] at hAl hBl; omega
       refine sQ (SC.sR (lM I (lU (eN uT29 I) (lU (SU.eq (v':=vb true) (gR I I) (congrArg vb (decide_eq_true hpa))) (lM I (lY I I I (mV I) (lY I I I (eN uT29 I) (lY I I I (SU.eq (v':=vb true) (gR I I) (congrArg vb (decide_eq_true hpb))) (lU (pT I I) (SL.nT (cT I (kP (tN (bK (sQ ?_)))))))))))))))
       refine dW [] [(0,2),(1,2),(2,2),(3,1),(4,2),(5,2),(6,2),(7,1),(8,2)] Tryz.mixed (by kernel_rfl) ?_
       refine pU I (mV I) (pU I (iA uT29 zT40 I I hbb dC hpb) (pU I (fC uT40 I zT3 I hbb) (pK I (pA (e:=encCell) (o:=0) (j:=0) (u:=vi y'.id) iT3 I hrb.rd I I) (pU I (mV I) (pU I (iA uT29 zT40 I I hba dC hpa) (pU I (fC uT40 I zT3 I hba) (pK I (pA (e:=encCell) (o:=0) (j:=0) (u:=vi x'.id) iT3 I hra.rd I I) (pU I (lS I I) (pN (tN ?_))))))))))
       refine iP I (fun hc=>?_) (fun hc=>?_)
       ·refine SC.sR (lM I (lM I (lU (iA uT29 zT40 I I hbb dC hpb) (lK (eA (e:=encCell) (a:=y') (j:=0) iT40 zT40 I hrb.rd I) (lW (bS sty29 I I I (szs_mk sB) dC) ?_)))))
        rintro _ _ _ ⟨b60,rfl,rfl,rfl⟩
        refine lW (aP (e:=encCell) 0 y' sty29 I I I I I oM oM) ?_
        rintro v61 _ _ ⟨rfl,rfl⟩
        refine lA I (SL.nT (rG (lM I (lU (SU.sliceL uT29 zT40 I I dC (by simp only [List.length_cons]; omega)) ?_))))
        refine lA I (nL (bN ?_))
        rw [hx.1,hy.1] at hc
        refine gA (_,_,v61,A1,x :: A3,B1 ++ [y],B3,out ++ [y],ro ++ [y']) sB I I ⟨⟨hva,hnb⟩,hro.append ⟨hy,trivial⟩,hA',by rw [hB']; simp,?_,?_,?_,?_⟩ lN
        ·refine Srt.append_iff.2 ⟨hso,Srt.one y,fun a ha b hb=>?_⟩
         simp at hb; subst hb; exact hout a ha b (by simp)
        ·have h2:=hto.append (Stab.refl (key:=Cl.id) [y])
         simpa using h2
        ·intro a ha b hb
         dsimp only at ha hb
         rcases List.mem_append.1 ha with ha | ha
         ·refine hout a ha b ?_
          simp at hb ⊢
          rcases hb with h | h | h
          ·exact .inl h
          ·exact .inr (.inl h)
          ·exact .inr (.inr (.inr h))
         ·simp at ha; subst ha
          rcases List.mem_append.1 hb with hb | hb
          ·rcases List.mem_cons.1 hb with rfl | hb
           ·omega
           ·have:=(Srt.cons_iff.1 hsa2).1 b hb; omega
          ·exact (Srt.cons_iff.1 hsb2).1 b hb
        ·intro a ha b hb
         dsimp only at ha hb
         rcases List.mem_append.1 ha with ha | ha
         ·exact hlt a ha b hb
         ·simp at ha; subst ha
          rcases List.mem_cons.1 hb with rfl | hb
          ·omega
          ·have:=(Srt.cons_iff.1 hsa2).1 b hb; omega
       ·refine SC.sR (lM I (lM I (lU (iA uT29 zT40 I I hba dC hpa) (lK (eA (e:=encCell) (a:=x') (j:=0) iT40 zT40 I hra.rd I) (lW (bS sty29 I I I (szs_mk sB) dC) ?_)))))
        rintro _ _ _ ⟨b68,rfl,rfl,rfl⟩
        refine lW (aP (e:=encCell) 0 x' sty29 I I I I I oM oM) ?_
        rintro v69 _ _ ⟨rfl,rfl⟩
        refine lA I (SL.nT (rG (lM I (lU (SU.sliceL uT29 zT40 I I dC (by simp only [List.length_cons]; omega)) ?_))))
        refine lA I (nL (bN ?_))
        rw [hx.1,hy.1] at hc
        refine gA (_,_,v69,A1 ++ [x],A3,B1,y :: B3,out ++ [x],ro ++ [x']) sB I I ⟨⟨hna,hvb⟩,hro.append ⟨hx,trivial⟩,by rw [hA']; simp,hB',?_,?_,?_,?_⟩ lN
        ·refine Srt.append_iff.2 ⟨hso,Srt.one x,fun a ha b hb=>?_⟩
         simp at hb; subst hb; exact hout a ha b (by simp)
        ·have h2 : Stab Cl.id ([x] ++ B1) (B1 ++ [x]):=Stab.swap (fun a ha b hb=>by simp at ha; subst ha; have:=hlt b hb a (by simp); omega)
         have h3:=(Stab.refl (key:=Cl.id) A1).append h2
         have h4:=hto.append (Stab.refl (key:=Cl.id) [x])
         dsimp only
         simp only [List.append_assoc] at h3 h4 ⊢
         exact h3.trans h4
        ·intro a ha b hb
         dsimp only at ha hb
         rcases List.mem_append.1 ha with ha | ha
         ·refine hout a ha b ?_
          simp at hb ⊢
          rcases hb with h | h | h
          ·exact .inr (.inl h)
          ·exact .inr (.inr (.inl h))
          ·exact .inr (.inr (.inr h))
         ·simp at ha; subst ha
          rcases List.mem_append.1 hb with hb | hb
          ·exact (Srt.cons_iff.1 hsa2).1 b hb
          ·rcases List.mem_cons.1 hb with rfl | hb
           ·omega
           ·have:=(Srt.cons_iff.1 hsb2).1 b hb; omega
        ·intro a ha b hb
         exact hlt a ha b (by simp [hb])
    ·rintro ⟨va,vb1,vo,A2,B2,out,ro⟩ ⟨hva,hvb,hro,hres⟩
     dsimp only at hva hvb hro hres ⊢
     obtain ⟨ra,hra,halla⟩:=hva
     obtain ⟨rb,hrb,hallb⟩:=hvb
     have hl1:=congrArg List.length hres
     rw [canonC_length] at hl1
     simp only [List.length_append] at hl1
     have e1:=hro.length
     have e2:=halla.length
     have e3:=hallb.length
     refine SC.sR (lM I (lM I (lW (aQ (e:=encCell) 0 sty29 I I I hra oM oM) ?_)))
     rintro v74 _ _ ⟨rfl,rfl⟩
     refine lM I (lW (aQ (e:=encCell) 0 sty29 I I I hrb lN lN) ?_)
     rintro v76 _ _ ⟨rfl,rfl⟩
     refine lA I (SL.nT (rE (fT fun g3 hle3 hs3=>?_)))
     exact ST.ret1 (.inl I) results106 I ⟨I,hle1.trans (hle2.trans hle3),ro ++ ra ++ rb,hs3,by rw [← hres]; exact (((hro.append halla).append hallb).mono fun _ _=>CellR.mono hle3)⟩
theorem refCanon_spec (E : World) (g : PH) (s : Own) (v : Value) (l : List Cl) (hv : Cells g v l) (hf : Fits l) :
  Ctr Tryz.prog E 44 #[.agg #[v]] g s (fun r g' s'=>s = s' ∧ Le g g' ∧ ∃ u,r = .agg #[u] ∧ Cells g' u (canonC l)):=by
 obtain ⟨p,c,rfl⟩:=hv.form
 refine Ctr.of (args:=[.agg #[.slice p l.length c]]) func44 I ntmps44 (bE I) ?_
 refine SC.sR (SL.bx (bO I) fun b1=>?_)
 refine SL.bx (aL zeroValue31) fun b2=>?_
 refine SL.nT (SC.sR (lU (fA uT31 I zT29 I) (lK (qL iT29 I (cO 1 I I)) (lW (cL call106 I (ordered_spec E l.length g _ _ l (lR _) hv hf)) ?_))))
 rintro v5 g1 _ ⟨rfl,hle,h5⟩
 obtain ⟨q,d,rfl⟩:=h5.form
 refine lU (SU.build I (build31 _ I)) (SL.O2 (sK 0 zT31 I I I I I sB) ?_)
 refine SL.nT (rE ?_)
 exact ST.retCD 0 s (.inl I) results44 I iT31 zT31 I I (.cons _ (.cons _ (.refl _))) ⟨I,hle,_,I,h5⟩
theorem sameCell_spec (E : World) (g : PH) (s : Own) (a b : Cl) (ra rb : Rc) (ha : CellR g a ra) (hb : CellR g b rb) (hl : a.sides.length < 1099511627776) :
  Ctr Tryz.prog E 52 #[rcv ra,rcv rb] g s (fun r g' s'=>r = vb (decide (a = b)) ∧ g = g' ∧ s = s'):=by
 obtain ⟨p,c,rfl,hsa⟩:=cellR_form ha
 obtain ⟨q,d,rfl,hsb⟩:=cellR_form hb
 have f1 : a.id ≠ b.id → (decide (a.id ≠ b.id) || decide (a.dim ≠ b.dim) || decide ((a.sides.length : Int) ≠ b.sides.length)) = true:=fun h=>by simp [h]
 have f2 : ¬ a.id ≠ b.id → a.dim ≠ b.dim → (decide (a.id ≠ b.id) || decide (a.dim ≠ b.dim) || decide ((a.sides.length : Int) ≠ b.sides.length)) = true:=fun h h2=>by simp [h,h2]
 have f3 : ¬ a.id ≠ b.id → ¬ a.dim ≠ b.dim → (decide (a.id ≠ b.id) || decide (a.dim ≠ b.dim) || decide ((a.sides.length : Int) ≠ b.sides.length)) = decide ((a.sides.length : Int) ≠ b.sides.length):=fun h h2=>by simp [h,h2]
 refine Ctr.of (args:=[.agg #[vi a.id,vi a.dim,.slice p a.sides.length c],.agg #[vi b.id,vi b.dim,.slice q b.sides.length d]]) func52 I ntmps52 (bE I) ?_
 refine SC.sR (SL.bx (bO I) fun b2=>?_)
 refine SL.bx (bO I) fun b3=>?_
 refine lA I (SL.nT (sQ ?_))
 refine SC.to (g':=g) (s':=pt b3 (.cells #[vi b.id,vi b.dim,.slice q b.sides.length d] 40 (0,0)) :: pt b2 (.cells #[vi a.id,vi a.dim,.slice p a.sides.length c] 40 (0,0)) :: s) (fun w hw=>hw) ?_
 refine SC.cutB 26 ((decide (a.id ≠ b.id) || decide (a.dim ≠ b.dim) || decide ((a.sides.length : Int) ≠ b.sides.length))) ?_ ?_
 ·refine rG (lU (fA uT40 I zT3 I) (lK (qL (v:=vi a.id) iT3 I (cO 1 I I)) (lU (fA uT40 I zT3 I) (lK (qL (v:=vi b.id) iT3 I (cO 0 I I)) (lU (nQ I I) (lM I ?_))))))
  refine sP ?_ ?_
  ·intro h11
   refine lZ I I I (lZ I I I (lZ I I I (lZ I I I (lZ I I I (lU (pT I I) (lM I (lZ I I I (lZ I I I (lZ I I I (lZ I I I (lZ I I I (lZ I I I (lZ I I I (lU (pT I I) (nL ?_)))))))))))))))
   exact ST.mid1 (by (rw [f1 h11]; rfl)) mI
  ·intro h11
   refine lY I I I (fA uT40 I zT3 I) (SL.gq (gT I I I dC) (qL (v:=vi a.dim) iT3 I (cO 1 I I)) dC (lY I I I (fA uT40 I zT3 I) (SL.gq (gT I I I dC) (qL (v:=vi b.dim) iT3 I (cO 0 I I)) dC (lY I I I (nQ I I) (lU (pF I I) (lM I ?_))))))
   refine sP ?_ ?_
   ·intro h18
    refine lZ I I I (lZ I I I (lZ I I I (lZ I I I (lZ I I I (lZ I I I (lZ I I I (lU (pT I I) (nL ?_))))))))
    exact ST.mid1 (by (rw [f2 h11 h18]; rfl)) mI
   ·intro h18
    refine lY I I I (fA uT40 I zT38 I) (SL.gq (gT I I I dC) (qL (v:=.slice p a.sides.length c) iT38 I (cO 1 I I)) dC (lY I I I (eN uT38 I) (lY I I I (fA uT40 I zT38 I) (SL.gq (gT I I I dC) (qL (v:=.slice q b.sides.length d) iT38 I (cO 0 I I)) dC (lY I I I (eN uT38 I) (lY I I I (nQ I I) (lU (pF I I) (nL ?_))))))))
    exact ST.mid1 (by (rw [f3 h11 h18]; rfl)) mI
 refine iQ I (fun hbad=>?_) (fun hbad=>?_)
 ·refine SC.sR (lA I (SL.nT (rE (tR (dR (s':=s) (.cons _ (.cons _ (.refl _))) ?_)))))
  exact ST.ret1 (.inl I) results52 I ⟨congrArg vb (Eq.symm (decide_eq_false fun e=>by rw [e] at hbad; simp at hbad)),I,I⟩
 ·have hid : a.id = b.id:=by simp at hbad; exact hbad.1.1
  have hdim : a.dim = b.dim:=by simp at hbad; exact hbad.1.2
  have hln : a.sides.length = b.sides.length:=by simp at hbad; omega
  refine kP (tN (sQ (SC.sR (lA I (SL.nT (bK ?_))))))
  refine oP (ι:=Nat) (fun k=>[(2,pp b2 0),(3,pp b3 0),(5,vi k)]) (fun _=>g) (fun _=>pt b3 (.cells #[vi b.id,vi b.dim,.slice q b.sides.length d] 40 (0,0)) :: pt b2 (.cells #[vi a.id,vi a.dim,.slice p a.sides.length c] 40 (0,0)) :: s) (fun k=>k ≤ a.sides.length ∧ a.sides.take k = b.sides.take k) (fun k=>a.sides.length - k) 0
   sB rfl rfl ⟨Nat.zero_le _,by simp⟩ ?_
  rintro k ⟨hk,heq⟩
  refine sQ (SC.sR (lM I (lU (fA uT40 I zT38 I) (lK (qL (v:=.slice p a.sides.length c) iT38 I (cO 1 I I)) (lU (eN uT38 I) (lU (lS I I) (SL.nT ?_)))))))
  refine iP I (fun hlt=>?_) (fun hlt=>?_)
  ·have hka : k < a.sides.length:=oM
   have hkb : k < b.sides.length:=oM
   have hb1:=hsa.based oM
   have hb2:=hsb.based oM
   refine kP (tN (sQ (bK (sQ ?_))))
   refine dW [] [(0,2),(1,1),(2,2),(3,2),(4,1),(5,2),(6,1),(7,2),(8,2),(9,1),(10,2)] Tryz.mixed (by kernel_rfl) ?_
   refine pU I (fA uT40 I zT38 I) (pK I (qL (v:=.slice p a.sides.length c) iT38 I (cO 1 I I)) (pU I (mV I) (pU I (iA uT38 zT42 I I hb1 oM sL) ?_)))
   refine pQ I (eA iT42 zT42 I hsa.rd (gE hka)) dC ?_
   refine pU I (fA uT40 I zT38 I) (pK I (qL (v:=.slice q b.sides.length d) iT38 I (cO 0 I I)) (pU I (mV I) (pU I (iA uT38 zT42 I I hb2 oM sL) ?_)))
   refine pQ I (eA iT42 zT42 I hsb.rd (gE hkb)) dC ?_
   refine pU I (SU.neqSide I I) (pN (tN ?_))
   refine iP I (fun hne=>?_) (fun hne=>?_)
   ·refine SC.sR (lA I (SL.nT (rE (bR (tR (tR (bR (tR (dR (s':=s) (.cons _ (.cons _ (.refl _))) ?_)))))))))
    exact ST.ret1 (.inl I) results52 I ⟨congrArg vb (Eq.symm (decide_eq_false fun e=>hne (by simp [e]))),I,I⟩
   ·refine kP (bN (tN (rG (lM I (lU (aD I I oM) (lA I (nL ?_)))))))
    exact gA (k + 1) sB I I ⟨oM,take_eq_succ hka hkb heq (Decidable.of_not_not hne)⟩ oM
  ·have hkk : k = a.sides.length:=oM
   subst hkk
   have hs:=take_eq_all hln heq
   refine xI (tX (tX (bX (tN (SC.sR (lA I (SL.nT (rE (dR (s':=s) (.cons _ (.cons _ (.refl _))) ?_)))))))))
   exact ST.ret1 (.inl I) results52 I ⟨congrArg vb (Eq.symm (decide_eq_true (cl_eq.2 ⟨hid,hdim,hs⟩))),I,I⟩
theorem foldl_ids (l : List Cl) : ∀ (acc : List Cl) (c : Cl),(c ∈ acc ∨ c ∈ l) → ∃ x ∈ l.foldl addC acc,x.id = c.id:=by
 induction l with
 | nil=>intro acc c h; rcases h with h | h; exact ⟨c,h,rfl⟩; simp at h
 | cons y r ih =>
  intro acc c h
  simp only [List.foldl_cons]
  rcases h with h | h
  ·exact ih (addC acc y) c (.inl (by unfold addC; split; exact h; simp [h]))
  ·rcases List.mem_cons.1 h with rfl | h
   ·by_cases ha : acc.any (fun x=>x.id == c.id) = true
    ·rw [addC_old ha]
     rw [List.any_eq_true] at ha
     obtain ⟨z,hz,he⟩:=ha
     obtain ⟨x,hx,hxe⟩:=ih acc z (.inl hz)
     exact ⟨x,hx,by rw [hxe]; simpa using he⟩
    ·have ha' : acc.any (fun x=>x.id == c.id) = false:=by simpa using ha
     rw [addC_new ha']
     exact ih _ c (.inl (by simp))
   ·exact ih _ c (.inr h)
theorem srt_any {L : List Cl} (hs : Srt Cl.id L) {k : Nat} (h0 : 0 < k) (hk : k < L.length) : ((L.take k).foldl addC []).any (fun x=>x.id == L[k].id) = decide (L[k].id = (L[k - 1]'oM).id):=by
 rw [Bool.eq_iff_iff,List.any_eq_true,decide_eq_true_iff]
 constructor
 ·rintro ⟨x,hx,he⟩
  have hm:=(mem_foldl _ [] x hx).resolve_left (by simp)
  obtain ⟨j,hj,rfl⟩:=List.getElem_of_mem hm
  rw [List.length_take] at hj
  rw [List.getElem_take] at he
  have he' : (L[j]'oM).id = L[k].id:=by simpa using he
  rcases Nat.lt_or_ge j (k - 1) with h | h
  ·have h1:=List.pairwise_iff_getElem.1 hs j (k - 1) oM oM h
   have h2:=List.pairwise_iff_getElem.1 hs (k - 1) k oM hk oM
   omega
  ·have : j = k - 1:=oM
   subst this
   exact he'.symm
 ·intro he
  have hm : (L[k - 1]'oM) ∈ L.take k:=by
   have : k - 1 < (L.take k).length:=by rw [List.length_take]; omega
   have h2:=gM this
   rwa [List.getElem_take] at h2
  obtain ⟨x,hx,hxe⟩:=foldl_ids (L.take k) [] _ (.inr hm)
  exact ⟨x,hx,by rw [hxe,← he]; simp⟩
theorem refCells_spec (E : World) (g : PH) (s : Own) (v : Value) (l : List Cl) (hv : Cells g v l) (hf : Fits l) :
  Ctr Tryz.prog E 102 #[.agg #[v]] g s (fun r g' s'=>s = s' ∧ Le g g' ∧ Cells g' r (tabC l)):=by
 obtain ⟨p,c,rfl⟩:=hv.form
 have hsrt:=canonC_srt l
 have hcl:=canonC_length l
 have hfl:=hf.1
 refine Ctr.of (args:=[.agg #[.slice p l.length c]]) func102 I ntmps102 (bE I) ?_
 refine SC.sR (SL.bx (bO I) fun b1=>?_)
 refine lA I (SL.nT (SC.sR (lU (fA uT31 I zT29 I) (lK (qL iT29 I (cO 0 I I)) (lW (cL call106 I (ordered_spec E l.length g _ _ l (lR _) hv hf)) ?_)))))
 rintro v8 g1 _ ⟨rfl,hle,h8⟩
 obtain ⟨rs,hrs,hall⟩:=h8
 have hrl:=hall.length
 obtain ⟨q,d,rfl⟩:=hrs.form
 refine lA I (SL.nT (SC.sR (lA I (SL.nT (sQ (SC.sR (lA I (SL.nT (bK (SC.nilRow 40 3 ?_))))))))))
 refine oP (ι:=Value × Nat × List Rc) (fun i=>[(3,.slice q rs.length d),(4,i.1),(5,vi i.2.1)]) (fun _=>g1) (fun i=>rowA encCell 40 i.1 i.2.2 :: pt b1 (.cells #[.slice p l.length c] 31 (0,0)) :: s)
  (fun i=>i.2.1 ≤ rs.length ∧ All2 (CellR g1) (((canonC l).take i.2.1).foldl addC []) i.2.2) (fun i=>rs.length - i.2.1) (.slice none 0 0,0,[]) sB rfl rfl ⟨Nat.zero_le _,by simp [All2]⟩ ?_
 rintro ⟨ov,k,acc⟩ ⟨hk,hacc⟩
 dsimp only at hk hacc ⊢
 have hal:=hacc.length
 have hal2:=foldl_add_length ((canonC l).take k) []
 simp only [List.length_take,List.length_nil] at hal2
 refine sQ (SC.sR (lM I (lM I (lU (eN uT29 I) (lU (lS I I) (SL.nT ?_))))))
 refine iP I (fun hlt=>?_) (fun hlt=>?_)
 ·have hkr : k < rs.length:=oM
  have hkl : k < (canonC l).length:=oM
  have hb1:=hrs.based oM
  have hcr:=hall.get (gE hkl) (gE hkr)
  have htake : ((canonC l).take (k + 1)).foldl addC [] = addC (((canonC l).take k).foldl addC []) (canonC l)[k]:=by
   rw [tS hkl,List.foldl_append]; rfl
  have hgx : rs[((k : Nat) : Int).toNat]? = some rs[k]:=gE hkr
  have hnew : addC (((canonC l).take k).foldl addC []) (canonC l)[k] = ((canonC l).take k).foldl addC [] ++ [(canonC l)[k]] → All2 (CellR g1) (((canonC l).take (k + 1)).foldl addC []) (acc ++ [rs[k]]):=fun h=>by
   rw [htake,h]; exact hacc.append ⟨hcr,trivial⟩
  by_cases hk0 : k = 0
  ·subst hk0
   refine kP (tN (sQ (bK (sQ ?_))))
   refine dW [] [(0,2),(1,2),(2,2),(3,2),(4,2),(5,2),(6,2),(7,1),(8,2),(9,2),(10,2),(11,2),(12,2),(13,1),(14,2),(15,2)] Tryz.mixed (by kernel_rfl) ?_
   refine pU I (mV I) (pU I (SU.eq (v':=vb true) (eQ I I) I) (pU I (mV I) (fP I (gF I I I dC) dC (fP I (gF I I I dC) dC (fP I (gF I I I dC) dC (fP I (gF I I I dC) dC (SP.off1 I (gF I I I dC) dC (fP I (gF I I I dC) dC (fP I (gF I I I dC) dC (fP I (gF I I I dC) dC (fP I (gF I I I dC) dC (fP I (gF I I I dC) dC (SP.off1 I (gF I I I dC) dC (fP I (gF I I I dC) dC (pU I (pT I I) (pN (tN (cT I (rG (lM I (lM I (lM I (lU (iA uT29 zT40 I I hb1 oM sL) (lK (eA iT40 zT40 I hrs.rd hgx) (lW (bS sty29 I I I (szs_mk sB) dC) ?_)))))))))))))))))))))))))
   rintro _ _ _ ⟨b36,rfl,rfl,rfl⟩
   refine lW (aP (e:=encCell) 0 rs[0] sty29 I I I I I oM oM) ?_
   rintro v37 _ _ ⟨rfl,rfl⟩
   refine lA I (nL (bN (tN (rG (lM I (lU (aD I I oM) (lA I (nL ?_))))))))
   exact gA (v37,0 + 1,acc ++ [rs[0]]) sB I I ⟨lN,hnew (addC_new (by simp))⟩ lN
  ·have hk1 : k - 1 < rs.length:=oM
   have hk1l : k - 1 < (canonC l).length:=oM
   have hany:=srt_any hsrt (by omega : 0 < k) hkl
   have hcr1:=hall.get (gE hk1l) (gE hk1)
   have hgy : rs[((k : Int) - 1).toNat]? = some rs[k - 1]:=by rw [show ((k : Int) - 1).toNat = k - 1 by omega]; exact gE hk1
   refine kP (tN (sQ (bK (sQ ?_))))
   refine dW [] [(0,2),(1,2),(2,2),(3,2),(4,2),(5,2),(6,2),(7,1),(8,2),(9,2),(10,2),(11,2),(12,2),(13,1),(14,2),(15,2)] Tryz.mixed (by kernel_rfl) ?_
   refine pU I (mV I) (pU I (SU.eq (v':=vb false) (eQ I I) (congrArg vb (decide_eq_false oM))) (pU I (mV I) (SP.gu I (gT I I I dC) (mV I) dC (SP.gu I (gT I I I dC) (mV I) dC (SP.gu I (gT I I I dC) (iA uT29 zT40 I I hb1 oM sL) dC (SP.gu I (gT I I I dC) (fC uT40 I zT3 I hb1) dC (SP.gq I (gT I I I dC) (pA (e:=encCell) (o:=0) (u:=vi rs[k].id) iT3 I hrs.rd hgx I) dC (SP.gu I (gT I I I dC) (mV I) dC (SP.gu I (gT I I I dC) (mV I) dC (SP.gu I (gT I I I dC) (sU I I oM) dC (SP.gu I (gT I I I dC) (iA uT29 zT40 I I hb1 oM sL) dC (SP.gu I (gT I I I dC) (fC uT40 I zT3 I hb1) dC (SP.gq I (gT I I I dC) (pA (e:=encCell) (o:=0) (u:=vi rs[k - 1].id) iT3 I hrs.rd hgy I) dC (SP.gu I (gT I I I dC) (nQ I I) dC (pU I (pF I I) (pN (tN ?_)))))))))))))))))
   refine iP I (fun hne=>?_) (fun hne=>?_)
   ·refine rG (lM I (lM I (lM I (lU (iA uT29 zT40 I I hb1 oM sL) (lK (eA iT40 zT40 I hrs.rd hgx) (lW (bS sty29 I I I (szs_mk sB) dC) ?_))))))
    rintro _ _ _ ⟨b36,rfl,rfl,rfl⟩
    refine lW (aP (e:=encCell) 0 rs[k] sty29 I I I I I oM oM) ?_
    rintro v37 _ _ ⟨rfl,rfl⟩
    refine lA I (nL (bN (tN (rG (lM I (lU (aD I I oM) (lA I (nL ?_))))))))
    rw [hcr.1,hcr1.1] at hne
    exact gA (v37,k + 1,acc ++ [rs[k]]) sB I I ⟨lN,hnew (addC_new (by rw [hany]; exact decide_eq_false hne))⟩ lN
   ·refine kP (bN (tN (rG (lM I (lU (aD I I oM) (lA I (nL ?_)))))))
    rw [hcr.1,hcr1.1] at hne
    exact gA (ov,k + 1,acc) sB I I ⟨lN,by dsimp only; rw [htake,addC_old (by rw [hany]; exact decide_eq_true (Decidable.of_not_not hne))]; exact hacc⟩ lN
 ·have hkk : (canonC l).take k = canonC l:=tL oM
  rw [hkk] at hacc
  refine xI (tX (tX (bX (tN (SC.sR (lM I (lA I (SL.nT (rE (fT fun g2 hle2 hs2=>?_))))))))))
  refine dR (s':=s) (.cons _ (.refl _)) ?_
  exact ST.ret1 (.inl I) results102 I ⟨I,hle.trans hle2,acc,hs2,hacc.mono fun _ _=>CellR.mono hle2⟩
def atC (l : List Cl) (id : Int) : Int:=if (l.map Cl.id).contains id then lbI (l.map Cl.id) id else -1
theorem at_spec (E : World) (g : PH) (s : Own) (v : Value) (l : List Cl) (id : Int) (hv : Cells g v l) (hl : l.length < 1099511627776) (hs : (l.map Cl.id).Pairwise (· ≤ ·)) :
  Ctr Tryz.prog E 103 #[v,vi id] g s (fun r g' s'=>r = vi (atC l id) ∧ g = g' ∧ s = s'):=by
 obtain ⟨rs,hrs,hall⟩:=hv
 have hrl:=hall.length
 obtain ⟨p,c,rfl⟩:=hrs.form
 have hids:=all2_ids hall
 have hml : (l.map Cl.id).length = l.length:=by simp
 have hri : ∀ k (h : k < (l.map Cl.id).length) (h2 : k < rs.length),(l.map Cl.id)[k] = rs[k].id:=fun k h h2=>by simp only [hids]; simp
 unfold atC
 refine Ctr.of (args:=[.slice p rs.length c,vi id]) func103 I ntmps103 (bE I) ?_
 refine SC.sR (lA I (SL.nT (SC.sR (lA I (SL.nT (SC.sR (lM I (lU (eN uT29 I) (lA I (SL.nT ?_))))))))))
 generalize l.map Cl.id = L at *
 refine SC.cut (ι:=Nat) (fun i=>[(0,.slice p rs.length c),(1,vi id),(5,vi i)]) (fun _=>g) (fun _=>s) (fun i=>i ≤ L.length ∧ (∀ k (h : k < L.length),k < i → L[k] < id) ∧ ∀ k (h : k < L.length),i ≤ k → id ≤ L[k]) ?_ ?_
 ·refine bK ?_
  refine oP (ι:=Nat × Nat) (fun q=>[(0,.slice p rs.length c),(1,vi id),(5,vi q.1),(6,vi q.2)]) (fun _=>g) (fun _=>s)
   (fun q=>q.1 ≤ q.2 ∧ q.2 ≤ L.length ∧ (∀ k (h : k < L.length),k < q.1 → L[k] < id) ∧ ∀ k (h : k < L.length),q.2 ≤ k → id ≤ L[k]) (fun q=>q.2 - q.1) (0,L.length)
   ⟨rfl,rfl,rfl,vi_eq oM,trivial⟩ rfl rfl ⟨Nat.zero_le _,lR _,fun k _ h=>absurd h oM,fun k h1 h2=>absurd h1 (by dsimp only at h2; omega)⟩ ?_
  rintro ⟨i,j⟩ ⟨hij,hj,hlo,hhi⟩
  dsimp only at hij hj hlo hhi ⊢
  refine sQ (SC.sR (lM I (lM I (lU (lS I I) (SL.nT ?_)))))
  refine iP I (fun hlt=>?_) (fun hlt=>?_)
  ·have hb1:=hrs.based oM
   have hml2 : (i + j) / 2 < L.length:=oM
   have hmr : (i + j) / 2 < rs.length:=oM
   have hmx : rs[((((i + j) / 2 : Nat) : Int)).toNat]? = some rs[(i + j) / 2]:=gE hmr
   have hmi:=hri _ hml2 hmr
   refine kP (tN (bK (SC.sR (lM I (lM I (lU (aD I I oM) (lU (SU.eq (v':=vi (((i + j) / 2 : Nat) : Int)) (SU.quo I I dC) (congrArg vi (by rw [← Int.natCast_add]; exact half_tdiv _ oM))) ?_)))))))
   refine lA I (SL.nT (SC.sR (lM I (lM I (lU (iA uT29 zT40 I I hb1 oM sL) (lU (fC uT40 I zT3 I hb1) (lK (pA (e:=encCell) (o:=0) (u:=vi rs[(i + j) / 2].id) iT3 I hrs.rd hmx I) (lM I (lU (lS I I) (SL.nT ?_))))))))))
   refine iP I (fun hc=>?_) (fun hc=>?_)
   ·refine rG (lM I (lU (aD I I oM) (lA I (nL (bN ?_)))))
    refine gA ((i + j) / 2 + 1,j) sB I I ⟨lN,hj,fun k hk h=>?_,hhi⟩ lN
    dsimp only at h
    rw [← hmi] at hc
    rcases Nat.eq_or_lt_of_le (show k ≤ (i + j) / 2 by omega) with rfl | h'
    ·exact hc
    ·have:=List.pairwise_iff_getElem.1 hs k ((i + j) / 2) hk hml2 h'
     omega
   ·refine rG (lM I (lA I (nL (bN ?_))))
    refine gA (i,(i + j) / 2) sB I I ⟨lN,lN,hlo,fun k hk h=>?_⟩ lN
    dsimp only at h
    rw [← hmi] at hc
    rcases Nat.eq_or_lt_of_le (show (i + j) / 2 ≤ k by omega) with h' | h'
    ·subst h'; omega
    ·have:=List.pairwise_iff_getElem.1 hs ((i + j) / 2) k hml2 hk h'
     omega
  ·have hie : i = j:=oM
   subst hie
   refine xI (tX (tX (bX ?_)))
   exact ST.mid i sB I I ⟨hj,hlo,hhi⟩
 ·rintro i ⟨hj,hlo,hhi⟩
  have hlb:=lb_eq hj hlo hhi
  by_cases hin : (i : Int) < (rs.length : Int)
  ·have hir : i < rs.length:=oM
   have hil : i < L.length:=oM
   have hb1:=hrs.based oM
   have hmx : rs[((i : Nat) : Int).toNat]? = some rs[i]:=gE hir
   have hmi:=hri _ hil hir
   have hfnd:=found_eq hs hlo hhi hil
   refine sQ (SC.sR (lM I (lM I (lU (eN uT29 I) (lU (SU.eq (v':=vb true) (lS I I) (congrArg vb (decide_eq_true hin))) (lM I (lY I I I (mV I) (lY I I I (mV I) (lY I I I (iA uT29 zT40 I I hb1 oM sL) (lY I I I (fC uT40 I zT3 I hb1) (SL.gq (gT I I I dC) (pA (e:=encCell) (o:=0) (u:=vi rs[i].id) iT3 I hrs.rd hmx I) dC (lY I I I (mV I) (lY I I I (eQ I I) (lU (pT I I) (SL.nT ?_)))))))))))))))
   refine iP I (fun hc=>?_) (fun hc=>?_)
   ·refine SC.sR (lM I (lA I (SL.nT (rE (tR ?_)))))
    rw [← hmi] at hc
    exact ST.ret1 (.inl I) results103 I ⟨by rw [← hfnd,decide_eq_true hc,if_pos I,hlb],I,I⟩
   ·refine kP (tN (SC.sR (lA I (SL.nT (rE ?_)))))
    rw [← hmi] at hc
    exact ST.ret1 (.inl rfl) results103 rfl ⟨by rw [← hfnd,decide_eq_false hc]; rfl,rfl,rfl⟩
  ·have hnf:=notFound hlo oM
   refine sQ (SC.sR (lM I (lM I (lU (eN uT29 I) (lU (SU.eq (v':=vb false) (lS I I) (congrArg vb (decide_eq_false hin))) (lM I (lZ I I I (lZ I I I (lZ I I I (lZ I I I (lZ I I I (lZ I I I (lZ I I I (lU (pF I I) (SL.nT (cF I (kP (tN (SC.sR (lA I (SL.nT (rE ?_))))))))))))))))))))))
   exact ST.ret1 (.inl rfl) results103 rfl ⟨by rw [hnf]; rfl,rfl,rfl⟩
end Go.Proofs.YtkdibcicncjpdaaGreatDoor
