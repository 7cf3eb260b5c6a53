/-
  The evaluator's soundness, thirty-fourth part: a region whose order is drawn: an effect. The evaluator's soundness, thirty-fifth part: regions. The evaluator's soundness, thirty-sixth part: what code promises; functions, deferred calls, rounds. The evaluator's soundness, thirty-seventh part: the evaluator is sound. The evaluator's soundness, thirty-eighth part: calls whose outcome is known. No condition.
-/
import Derived.Test.YtbfeggodaaojgaaGreatDoorBa07
set_option linter.all false
section
set_option linter.all false
set_option linter.unusedVariables false
set_option linter.unusedSimpArgs false
namespace Go.Ev
open Go
/-- A memory without some names. -/
def wo : List Pos → Mem → Mem
  | [], m => m
  | p :: l, m => Tr.del p (wo l m)
theorem wo_get : ∀ (l : List Pos) (m : Mem) (p : Pos), Tr.get p (wo l m) = if p ∈ l then none else Tr.get p m
  | [], m, p => by simp [wo]
  | q :: l, m, p => by
    simp only [wo]
    by_cases e : q = p
    · subst e; rw [get_del_same]; simp
    · rw [get_del_ne q p _ e, wo_get l m p]; simp [Ne.symm e]
theorem gd_not {g : Gd} {fr : Fm} (h : GdOn g fr) (k : GdOff g fr) : False := by
  cases g with
  | no => exact k
  | on p t =>
    have h1 : Tr.get p fr = some (.bool t) := h
    rcases k with k | ⟨l, k⟩
    · rw [h1] at k; injection k with k; injection k with k; cases t <;> cases k
    · rw [h1] at k; injection k with k; cases k
section
variable {P : Program} {N : Nat} {ops : Array Oper} {rs : Array RO} {bf : Array Nat}
theorem re_ok {s : Nat} {fr : Fm} {m : Mem} {X : Prop} : ∀ (l : List Nat) (re : Re), reOf rs bf s l = some re → reK re fr m X → X ∧ ∀ i ∈ l, ∀ x, rs[i]? = some x → kd x.o = .q → pureQ x.o = false → befB bf i s = false →
    ∃ d, x.d = .to d ∧ firmR rs bf i x = true ∧ (GdOn x.g fr → ∃ u, Tr.get d fr = some u ∧ ∀ op, lowO P op = some x.o → QOk P (cutF x.o.nm fr) m op u)
  | [], re, h, hr => by
    simp only [reOf, Option.some.injEq] at h; subst h
    exact ⟨hr, fun i hi => by cases hi⟩
  | i :: l, re, h, hr => by
    simp only [reOf] at h
    split at h
    · rename_i x re' hx hre
      split at h
      · rename_i hc
        simp only [Bool.and_eq_true, beq_iff_eq, Bool.not_eq_true'] at hc
        split at h
        · rename_i d hd
          split at h
          · rename_i hfirm
            injection h with h; subst h
            rcases gdK_ok (fr := fr) hr with ⟨e1, e2⟩ | ⟨e1, e2⟩
            · have e2' : qK x.o fr m fun v => Tr.getK d fr fun u => sameK v u (reK re' fr m X) := e2
              have key : ∀ op, lowO P op = some x.o → (∃ u, Tr.get d fr = some u ∧ QOk P (cutF x.o.nm fr) m op u) ∧ reK re' fr m X := fun op hop => by
                rw [qK_cut (cut_agr x.o.nm fr)] at e2'
                obtain ⟨v, e3, e4⟩ := q_all hop hc.1.1 e2'
                obtain ⟨u, e5, e6⟩ := getK_ok d fr _ e3
                obtain ⟨rfl, e7⟩ := sameK_ok _ _ _ e6
                exact ⟨⟨v, e5, e4⟩, e7⟩
              have hrest : reK re' fr m X := by
                refine Classical.byContradiction fun hno => ?_
                have h2 := e2'
                rw [eq_false hno] at h2
                simp only [f_sameK, f_getK, f_qK] at h2
              obtain ⟨g1, g2⟩ := re_ok l re' hre hrest
              refine ⟨g1, fun i' hi' x' hx' h1 h2 h3 => ?_⟩
              rcases List.mem_cons.1 hi' with rfl | hi'
              · rw [hx] at hx'; injection hx' with hx'; subst hx'
                refine ⟨d, hd, hfirm, fun _ => ?_⟩
                cases hu : Tr.get d fr with
                | none =>
                  exfalso
                  have h2 : qK x.o fr m (fun _ => False) := by
                    have : (fun v => Tr.getK d fr fun u => sameK v u (reK re' fr m X)) = fun _ => False := by
                      funext v
                      refine eq_false fun h => ?_
                      obtain ⟨u, h5, _⟩ := getK_ok d fr _ h
                      rw [hu] at h5; cases h5
                    rw [← this]; exact e2'
                  rw [f_qK] at h2; exact h2
                | some u =>
                  refine ⟨u, rfl, fun op hop => ?_⟩
                  obtain ⟨⟨u', h5, h6⟩, _⟩ := key op hop
                  rw [hu] at h5; injection h5 with h5; subst h5; exact h6
              · exact g2 i' hi' x' hx' h1 h2 h3
            · obtain ⟨g1, g2⟩ := re_ok l re' hre e2
              refine ⟨g1, fun i' hi' x' hx' h1 h2 h3 => ?_⟩
              rcases List.mem_cons.1 hi' with rfl | hi'
              · rw [hx] at hx'; injection hx' with hx'; subst hx'
                exact ⟨d, hd, hfirm, fun h => (gd_not h e1).elim⟩
              · exact g2 i' hi' x' hx' h1 h2 h3
          · cases h
        · cases h
      · rename_i hc
        injection h with h; subst h
        obtain ⟨g1, g2⟩ := re_ok l re' hre hr
        refine ⟨g1, fun i' hi' x' hx' h1 h2 h3 => ?_⟩
        rcases List.mem_cons.1 hi' with rfl | hi'
        · rw [hx] at hx'; injection hx' with hx'; subst hx'
          exfalso; apply hc; simp [h1, h2, h3]
        · exact g2 i' hi' x' hx' h1 h2 h3
    · cases h
theorem hd_ok : ∀ (l : List Nat) (hd : Ps), hdOf rs l = some hd → ∀ i ∈ l, ∀ x, rs[i]? = some x → ∃ t, x.d = .to t ∧ t ∈ hd.list
  | [], hd, h, i, hi => by cases hi
  | j :: l, hd, h, i, hi => by
    intro x hx
    simp only [hdOf] at h
    split at h
    · rename_i y hd' hy hhd
      split at h
      · rename_i d hd2
        injection h with h; subst h
        rcases List.mem_cons.1 hi with rfl | hi
        · rw [hy] at hx; injection hx with hx; subst hx; exact ⟨d, hd2, by simp [Ps.list]⟩
        · obtain ⟨t, h1, h2⟩ := hd_ok l hd' hhd i hi x hx; exact ⟨t, h1, by simp [Ps.list, h2]⟩
      · cases h
    · cases h
/-- What was out of sight comes back. -/
theorem Evo.back {ρ ρ' : Env} {n n' : Pos} {mD m1 m' m2 : Mem} {w w' : World} (hD : Rel P ρ n mD w) (hs : Sub m1 mD) (hf : Fre ρ n) (h : Evo P ρ n m1 w ρ' n' m' w')
    (hsp : ∀ p o, Tr.get p m2 = some o → Tr.get p m' = some o ∨ (Tr.get p m1 = none ∧ Tr.get p mD = some o)) : Evo P ρ n mD w ρ' n' m2 w' := by
  have hbel := hf.below hD
  have hout : ∀ p o a k, Tr.get p m1 = none → Tr.get p mD = some o → ρ p = some (a, k) → a < w.heap.size ∧ w'.heap[a]? = w.heap[a]? := fun p o a k h5 h6 h7 => by
    have hlt := hD.lt (by rw [h6]; simp) h7
    refine ⟨hlt, h.frame a hlt fun q j hq hj => ?_⟩
    have h8 := hD.inj p q a k j (by rw [h6]; simp) (hs.live hq) h7 hj
    subst h8; exact hq h5
  have old : ∀ p o, Tr.get p mD = some o → ρ' p = ρ p := fun p o hp => h.out p (.inl (hbel p (by rw [hp]; simp)))
  have key : ∀ (p q : Pos) o o' (a j j' : Nat), Tr.get p m' = some o → Tr.get q m1 = none → Tr.get q mD = some o' → ρ' p = some (a, j) → ρ' q = some (a, j') → False := fun p q o o' a j j' e1 e2 e3 e4 e5 => by
    rw [old q o' e3] at e5
    obtain ⟨hlt, _⟩ := hout q o' a j' e2 e3 e5
    rcases h.news p a j (by rw [e1]; simp) e4 with h7 | ⟨q2, j2, h7, h8⟩
    · omega
    · have h9 := hD.inj q q2 a j' j2 (by rw [e3]; simp) (hs.live h7) e5 h8
      subst h9; exact h7 e2
  refine ⟨h.ext, h.out, ⟨fun p q a j j' hp hq h5 h6 => ?_, fun p o hp => ?_⟩, h.os, h.tape, h.output, h.drawn, h.size, fun a ha hn => h.frame a ha fun p j hp hj => hn p j (hs.live hp) hj, fun p a j hp hj => ?_⟩
  · obtain ⟨o, ho⟩ := Option.ne_none_iff_exists'.1 hp
    obtain ⟨o', ho'⟩ := Option.ne_none_iff_exists'.1 hq
    rcases hsp p o ho with e1 | ⟨e1, e2⟩
    · rcases hsp q o' ho' with e3 | ⟨e3, e4⟩
      · exact h.rel.inj p q a j j' (by rw [e1]; simp) (by rw [e3]; simp) h5 h6
      · exact (key p q o o' a j j' e1 e3 e4 h5 h6).elim
    · rcases hsp q o' ho' with e3 | ⟨e3, e4⟩
      · exact (key q p o' o a j' j e3 e1 e2 h6 h5).elim
      · rw [old p o e2] at h5; rw [old q o' e4] at h6
        exact hD.inj p q a j j' (by rw [e2]; simp) (by rw [e4]; simp) h5 h6
  · rcases hsp p o hp with e1 | ⟨e1, e2⟩
    · exact h.rel.mem p o e1
    · obtain ⟨a, j, ob, e3, e4, e5⟩ := hD.mem p o e2
      exact ⟨a, j, ob, by rw [old p o e2]; exact e3, by rw [(hout p o a j e1 e2 e3).2]; exact e4, e5.mono P h.ext⟩
  · obtain ⟨o, ho⟩ := Option.ne_none_iff_exists'.1 hp
    rcases hsp p o ho with e1 | ⟨e1, e2⟩
    · rcases h.news p a j (by rw [e1]; simp) hj with h7 | ⟨q2, j2, h7, h8⟩
      · exact .inl h7
      · exact .inr ⟨q2, j2, hs.live h7, h8⟩
    · rw [old p o e2] at hj; exact .inr ⟨p, j, by rw [e2]; simp, hj⟩
end
section
variable {P : Program} {N : Nat} {ops : Array Oper} {rs : Array RO} {bf : Array Nat} {ρ0 : Env} {n0 : Pos} {m0 : Mem} {w0 : World} {pre dn : List Nat} {lt : List (Nat × Pos)} {fr : Fm} {m : Mem} {n : Pos} {ld : LD} {ρ : Env} {w : World} {a : Act}
variable {cl : Cl} {rl : Rl} {cx : Cx} {b : Frame} {cs : List Frame} {s : Nat} {rest : List Nat} {kk : List Item} {o : Oper} {x : RO} {c : Fm → Mem → Pos → LD → Prop → Prop} {k : Prop}
/-- An effect: the evaluator and the machine do it at once. -/
theorem eff_ok (hcl : ClOk P cl) (hrl : RlOk P rl) (fcl : FCl cl) (frl : FRl rl) (hs : Sta P N ops rs bf) (I : Inv P N ops rs bf ρ0 n0 m0 w0 pre dn lt fr m n ld ρ w a) (ho : ops[s]? = some o) (hx : rs[s]? = some x) (hlow : lowR P N ops o = some x) (hp : s ∉ pre)
    (hbef : ∀ j, j < ops.size → befB bf j s = true → j ∈ dn) (hk : kd x.o = .s) {re : Re} {hd : Ps} {r : LR} (hre : reOf rs bf s pre = some re) (hhd : hdOf rs (openR rs bf s pre) = some hd) (hc : ∀ fr m n ld, c fr m n ld False = False)
    (h : regK false cl rl cx (addR x re hd r) fr m n ld c k) (hcx : CxR ρ cx b cs) :
    ∃ fr' m' n' ld' k' ρ' w' a', Inv P N ops rs bf ρ0 n0 m0 w0 (s :: pre) (s :: dn) lt fr' m' n' ld' ρ' w' a' ∧ regK false cl rl cx r fr' m' n' ld' c k' ∧ Ext ρ ρ' ∧
      Steps P (lone (b.atR a (.inRegion ops (s :: rest) :: kk)) cs w) (lone (b.atR a' (.inRegion ops rest :: kk)) cs w') := by
  obtain ⟨hg, hdl, hl⟩ := lowR_parts hlow
  have hsd : s ∉ dn := fun h => hp (I.sub s h)
  have hrt : RTl ρ x.look fr a.tmps := fun p u hpl hu => I.rt p u hu fun i y hi hy hpre => by
    rcases hs.ord hi hx hy hpl with h1 | h1
    · exact hbef i (at_lt hs hi) h1
    · exact absurd (I.pcl i s hpre (at_lt hs hx) h1) hp
  have hev : EvR ρ (cutF x.o.nm fr) a.eval := (hrt.sub fun k hk => nm_look hk).evR
  -- what both do at once
  have both : ∀ {m' : Mem} {n' : Pos} {ld' : LD} {ρ' : Env} {w' : World} {a1 : Act} {v : SV} {y : Value}, Ext ρ ρ' → VR ρ' v y → a1.tmps = a.tmps → LDR ρ' ld' a1.defers → n.nat ≤ n'.nat → (∀ p : Pos, p.nat < n.nat → ρ' p = ρ p) →
      (∃ mD, (∀ p, Tr.get p mD = if p ∈ lt.map (·.2) then none else Tr.get p m') ∧ Gon P ρ0 n0 m0 w0 ρ' n' mD w') →
      (∀ (i : Nat) y o', rs[i]? = some y → ops[i]? = some o' → i ∈ pre → i ∉ s :: dn → Late P rs bf lt (putD x.d fr v) m' ρ' a.tmps i y o'.op) →
      Inv P N ops rs bf ρ0 n0 m0 w0 (s :: pre) (s :: dn) lt (putD x.d fr v) m' n' ld' ρ' w' (a1.put o.dst y) := fun {m' n' ld' ρ' w' a1 v y} hext hvy ha1 hld hnn hout hmd hlate =>
    have hsz : a1.tmps.size = N := by rw [ha1]; exact I.size
    { md := hmd, size := by rw [tm_size]; exact hsz, ldr := by rw [put_ld]; exact hld
      rt := fun p u hu hc => by
        by_cases e : x.d = .to p
        · rw [putD_eq e] at hu; injection hu with hu; subst hu
          exact ⟨y, tm_eq hdl e hsz y, hvy⟩
        · rw [putD_ne e] at hu
          obtain ⟨z, h1, h2⟩ := I.rt p u hu fun i y hi hy hpre => by
            rcases List.mem_cons.1 (hc i y hi hy (List.mem_cons_of_mem _ hpre)) with rfl | h6
            · exact absurd hpre hp
            · exact h6
          exact ⟨z, by rw [tm_ne hdl e, ha1]; exact h1, VR.mono hext _ _ h2⟩
      sub := fun i hi => by
        rcases List.mem_cons.1 hi with rfl | hi
        · simp
        · exact List.mem_cons_of_mem _ (I.sub i hi)
      dcl := fun i j hi hj hb => by
        rcases List.mem_cons.1 hi with rfl | hi
        · exact List.mem_cons_of_mem _ (hbef j hj hb)
        · exact List.mem_cons_of_mem _ (I.dcl i j hi hj hb)
      pcl := fun i j hi hj hb => by
        rcases List.mem_cons.1 hi with rfl | hi
        · exact List.mem_cons_of_mem _ (I.sub j (hbef j hj hb))
        · exact List.mem_cons_of_mem _ (I.pcl i j hi hj hb)
      bnd := fun i hi => by
        rcases List.mem_cons.1 hi with rfl | hi
        · exact at_lt hs hx
        · exact I.bnd i hi
      late := fun i y' o' hi ho' hpre hd => by
        rcases List.mem_cons.1 hpre with rfl | hpre
        · exact absurd (by simp) hd
        · obtain ⟨q1, frj, q2, q3⟩ := hlate i y' o' hi ho' hpre hd
          refine ⟨q1, frj, q2.tm fun p hpl hw => ?_, q3⟩
          rw [tm_ne hdl, ha1]
          intro e
          rcases hs.ord hx hi e hpl with h5 | h5
          · exact hw ⟨s, x, hx, e, h5⟩
          · exact hd (List.mem_cons_of_mem _ (hbef i (at_lt hs hi) h5))
      ltok := fun i p h1 => by
        obtain ⟨h2, h3, h4, h5, h6, h7⟩ := I.ltok i p h1
        refine ⟨List.mem_cons_of_mem _ h2, fun h => ?_, by rw [hout p h6]; exact h4, h5, by omega, h7⟩
        rcases List.mem_cons.1 h with rfl | h
        · exact hp h2
        · exact h3 h
      ltinj := I.ltinj }
  have hnotd : ∀ i, i ∉ s :: dn → i ∉ dn := fun i h h1 => h (List.mem_cons_of_mem _ h1)
  have hwr : ∀ {i : Nat} {y : RO}, rs[i]? = some y → i ∈ pre → ∀ p, Wr rs bf p i → x.d ≠ .to p := fun {i y} hi hpre p hw e => by
    obtain ⟨j, z, h1, h2, h3⟩ := hw
    have := hs.one h1 hx h2 e; subst this
    exact hp (I.pcl i j hpre (at_lt hs h1) h3)
  have hdne : ∀ {i : Nat} {y : RO}, rs[i]? = some y → i ∈ pre → ∀ p, y.d = .to p → x.d ≠ .to p := fun {i y} hi hpre p e1 e2 => by
    have := hs.one hi hx e1 e2; subst this; exact hp hpre
  unfold addR at h
  rw [hk] at h
  rcases gdK_ok h with ⟨h1, h2⟩ | ⟨h1, h2⟩
  · obtain ⟨X, m1, bk, g1, g2, g3, g4, g5, g6⟩ := hideK_ok hd fr m _ h2
    obtain ⟨mD, d1, d2⟩ := I.md
    -- names of what is late are out of sight
    have hlate : ∀ i q, (i, q) ∈ lt → q ∈ X := fun i q hq => by
      obtain ⟨e1, e2, _, _, _, y, e3, e4⟩ := I.ltok i q hq
      obtain ⟨o', ho'⟩ : ∃ o', ops[i]? = some o' := ⟨ops[i]'(at_lt hs e3), by simp [at_lt hs e3]⟩
      obtain ⟨_, frj, _, hcase⟩ := I.late i y o' e3 ho' e1 e2
      have hop : i ∈ openR rs bf s pre := by
        refine List.mem_filter.2 ⟨e1, ?_⟩
        simp only [isA, e3, e4, Bool.and_eq_true, Bool.not_eq_true']
        refine ⟨rfl, ?_⟩
        cases hb : befB bf i s with
        | false => rfl
        | true => exact absurd (hbef i (at_lt hs e3) hb) e2
      obtain ⟨t, e5, e6⟩ := hd_ok _ _ hhd i hop y e3
      rcases hcase with ⟨_, r5, _⟩ | ⟨_, _, r6, _⟩ | ⟨_, _, v, nm, ob, r6, r7, r8, _⟩
      · exact absurd hq (r5 q)
      · exact absurd hq (r6 q)
      · have := (I.ltinj i i q nm hq r6).1 rfl; subst this
        exact g5 t e6 v q (r8 t e5) r7
    have hltX : ∀ p, p ∈ lt.map (·.2) → p ∈ X := fun p hp => by
      obtain ⟨⟨i, q⟩, e1, rfl⟩ := List.mem_map.1 hp; exact hlate i q e1
    have hsub : Sub m1 mD := fun p ob hq => by
      rw [g2] at hq
      by_cases e : p ∈ X
      · rw [if_pos e] at hq; cases hq
      · rw [if_neg e] at hq
        rw [d1, if_neg (fun h => e (hltX p h))]; exact hq
    have h' : sK false cl rl cx x.o (cutF x.o.nm fr) m1 n ld (fun v m n ld k => reK re fr m (bk m fun m => dsK x.d fr v fun fr => regK false cl rl cx r fr m n ld c k)) k := by
      rw [← sK_cut (cut_agr x.o.nm fr)]; exact g1
    obtain ⟨v, m', n', ld', k', ρ', w', y, D, e1, e2, e3, e4, e5⟩ := ef_ok (kk := kk) (rest := rest) hcl hrl fcl frl hl hk
      (fun v m n ld => by simp only [f_regK fcl frl r _ _ _ _ c hc, f_dsK, g4, f_reK]) h' (d2.rel.sub hsub) d2.fre hev I.ldr hcx ho (on_ok hg h1 (hrt.sub fun k hk => g_look hk))
    obtain ⟨e6, e7⟩ := re_ok (P := P) pre re hre e1
    obtain ⟨m3, e8, e9⟩ := g3 m' _ e6
    have hout : ∀ p : Pos, p.nat < n.nat → ρ' p = ρ p := fun p hp => e2.evo.out p (.inl hp)
    -- what was out of sight is not what came up
    have hdis : ∀ q, q ∈ X → Tr.get q m' = none := fun q hq => by
      cases hm' : Tr.get q m' with
      | none => rfl
      | some ob' =>
        exfalso
        obtain ⟨A, j, _, q1, _⟩ := e2.rel.mem q ob' hm'
        have hq1 : Tr.get q m1 = none := by rw [g2, if_pos hq]
        by_cases hl : q ∈ lt.map (·.2)
        · obtain ⟨⟨i, q'⟩, l1, rfl⟩ := List.mem_map.1 hl
          obtain ⟨_, _, l2, _, l3, _⟩ := I.ltok i q' l1
          rw [hout q' l3, l2] at q1; cases q1
        · obtain ⟨ob, hob⟩ := Option.ne_none_iff_exists'.1 (g6 q hq)
          have hqD : Tr.get q mD = some ob := by rw [d1, if_neg hl]; exact hob
          obtain ⟨A', j', _, q2, _⟩ := d2.rel.mem q ob hqD
          have q3 := e2.ext q _ q2
          rw [q1] at q3; injection q3 with q3; injection q3 with q4 q5; subst q4
          have hlt := d2.rel.lt (by rw [hqD]; simp) q2
          rcases e2.evo.news q A j (by rw [hm']; simp) q1 with h7 | ⟨q2', j2, h7, h8⟩
          · omega
          · have h9 := d2.rel.inj q q2' A j' j2 (by rw [hqD]; simp) (hsub.live h7) q2 h8
            subst h9; exact h7 hq1
    have hm3 : ∀ p, p ∉ X → Tr.get p m3 = Tr.get p m' := fun p hp => by rw [e9, if_neg hp]
    have hm3' : ∀ p, p ∈ X → Tr.get p m3 = Tr.get p m := fun p hp => by rw [e9, if_pos hp]
    have hup : ∀ q ob, Tr.get q m' = some ob → Tr.get q m3 = some ob ∧ ∀ j, (j, q) ∈ lt → False := fun q ob hq => by
      have : q ∉ X := fun h => by rw [hdis q h] at hq; cases hq
      exact ⟨by rw [hm3 q this]; exact hq, fun j hj => this (hlate j q hj)⟩
    refine ⟨_, m3, n', ld', k', ρ', w', _, both (a1 := { a with defers := D }) e2.ext e3 rfl e4 e2.le hout ⟨wo (lt.map (·.2)) m3, wo_get _ _, ?_⟩ fun i z o' hi ho' hpre hnd => ?_, dsK_ok e8, e2.ext, e5⟩
    · have hev2 : Evo P ρ n mD w ρ' n' (wo (lt.map (·.2)) m3) w' := Evo.back d2.rel hsub d2.fre e2.evo fun p ob hq => by
        rw [wo_get] at hq
        by_cases hl : p ∈ lt.map (·.2)
        · rw [if_pos hl] at hq; cases hq
        · rw [if_neg hl] at hq
          by_cases hX : p ∈ X
          · rw [hm3' p hX] at hq
            exact .inr ⟨by rw [g2, if_pos hX], by rw [d1, if_neg hl]; exact hq⟩
          · rw [hm3 p hX] at hq; exact .inl hq
      exact d2.trans ⟨e2.le, e2.fre, hev2⟩
    · have hnd' := hnotd i hnd
      obtain ⟨q1, frj, q2, q3⟩ := I.late i z o' hi ho' hpre hnd'
      obtain ⟨z', hz', hlowz⟩ := hs.low ho'
      rw [hi] at hz'; injection hz' with hz'; subst hz'
      obtain ⟨hgz, _, hlz⟩ := lowR_parts hlowz
      have hbi : befB bf i s = false := by
        cases hb : befB bf i s with
        | false => rfl
        | true => exact absurd (hbef i (at_lt hs hi) hb) hnd'
      have hd : ∀ p, z.d = .to p → Tr.get p (putD x.d fr v) = Tr.get p fr := fun p e => putD_ne (hdne hi hpre p e)
      have hlook : Look rs bf (putD x.d fr v) ρ' a.tmps i z frj := (q2.frm fun p hw => putD_ne (hwr hi hpre p hw)).mono e2.ext
      rcases q3 with ⟨r4, r5, r6⟩ | ⟨r4, r5, r6, v', mj, r7, r8, r9, r10⟩ | ⟨r4, r5, v', nm', ob', r6, r7, r8, r9, r10⟩
      · exact ⟨q1, frj, hlook, .inl ⟨r4, r5, fun p e => by rw [hd p e]; exact r6 p e⟩⟩
      · cases hpu : pureQ z.o with
        | true =>
          refine ⟨q1, frj, hlook, .inr (.inl ⟨r4, r5, r6, v', mj, fun p e => by rw [hd p e]; exact r7 p e, r8, r9, fun q ob hq => ?_⟩)⟩
          rw [r9 hpu, get_leaf] at hq; cases hq
        | false =>
          obtain ⟨d, f1, f2, f3⟩ := e7 i hpre z hi r5 hpu hbi
          have hfirm : ∀ (j : Nat) y p, rs[j]? = some y → y.d = .to p → p.nat ∈ z.look → befB bf j i = true := fun j y p hj hy hpl => by
            have h5 := List.all_eq_true.1 f2 j (List.mem_range.2 (Array.getElem?_eq_some_iff.1 hj).1)
            rw [hj] at h5
            simp only [Bool.or_eq_true] at h5
            rcases h5 with h5 | h5
            · exact h5
            · rw [nm_to hy] at h5; simp at h5; exact absurd hpl h5
          have hon : GdOn z.g fr := by
            cases hgd : z.g with
            | no => trivial
            | on pg t =>
              rw [hgd] at r4
              have h5 : Tr.get pg frj = some (.bool t) := r4
              cases hog : o'.guard with
              | none => rw [hog, hgd] at hgz; simp [lowG] at hgz
              | some jb =>
                obtain ⟨j, bb⟩ := jb
                rw [hog, hgd] at hgz
                obtain ⟨u, h6, h7⟩ := yield_is hgz
                injection h6 with h6 _; subst h6
                cases hoj : ops[j]? with
                | none => rw [hoj] at h7; cases h7
                | some oj =>
                  rw [hoj] at h7
                  have h7' : oj.dst = some u := h7
                  obtain ⟨y, h8, h9⟩ := hs.low hoj
                  obtain ⟨_, h10, _⟩ := lowR_parts h9
                  have hyd : y.d = .to (Pos.of u) := by
                    rcases dst_is h10 with ⟨h11, _⟩ | ⟨t', h11, _, h12⟩
                    · rw [h7'] at h11; cases h11
                    · rw [h7'] at h11; injection h11 with h11; subst h11; exact h12
                  have hpl : (Pos.of u).nat ∈ z.look := g_look (by rw [hgd]; simp [Gd.nm])
                  rcases q2 _ _ hpl h5 with ⟨_, h13⟩ | ⟨h13, _⟩
                  · exact h13
                  · exact absurd ⟨j, y, h8, hyd, hfirm j y _ h8 hyd hpl⟩ h13
          obtain ⟨u, f4, f5⟩ := f3 hon
          refine ⟨q1, fr, fun p uu hpl hu => ?_, .inr (.inl ⟨hon, r5, r6, u, m', fun p e => ?_, f5 o'.op hlz, fun h => (by rw [hpu] at h; cases h), fun q ob hq => ⟨(hup q ob hq).1, fun j hj => ((hup q ob hq).2 j hj).elim⟩⟩)⟩
          · by_cases hw : Wr rs bf p i
            · exact .inl ⟨hw, by rw [putD_ne (hwr hi hpre p hw)]; exact hu⟩
            · refine .inr ⟨hw, ?_⟩
              obtain ⟨yy, h5, h6⟩ := I.rt p uu hu fun j y hj hy _ => absurd ⟨j, y, hj, hy, hfirm j y p hj hy hpl⟩ hw
              exact ⟨yy, h5, VR.mono e2.ext _ _ h6⟩
          · rw [hd p e]
            rw [f1] at e; injection e with e; subst e; exact f4
      · refine ⟨q1, frj, hlook, .inr (.inr ⟨r4, r5, v', nm', ob', r6, r7, fun p e => by rw [hd p e]; exact r8 p e, r9, ?_⟩)⟩
        rw [hm3' nm' (hlate i nm' r6)]; exact r10
  · refine ⟨_, m, n, ld, k, ρ, w, _, both (a1 := a) (.refl _) (undef_ok ρ) rfl I.ldr (Nat.le_refl _) (fun _ _ => rfl) I.md fun i z o' hi ho' hpre hnd => ?_, dsK_ok h2, .refl _, Steps.one (st_off ho (off_ok hg h1 (hrt.sub fun k hk => g_look hk)))⟩
    have hnd' := hnotd i hnd
    obtain ⟨q1, frj, q2, q3⟩ := I.late i z o' hi ho' hpre hnd'
    have hd : ∀ p, z.d = .to p → Tr.get p (putD x.d fr undef_) = Tr.get p fr := fun p e => putD_ne (hdne hi hpre p e)
    refine ⟨q1, frj, q2.frm fun p hw => putD_ne (hwr hi hpre p hw), ?_⟩
    rcases q3 with ⟨r4, r5, r6⟩ | ⟨r4, r5, r6, v', mj, r7, r8⟩ | ⟨r4, r5, v', nm', ob', r6, r7, r8, r9⟩
    · exact .inl ⟨r4, r5, fun p e => by rw [hd p e]; exact r6 p e⟩
    · exact .inr (.inl ⟨r4, r5, r6, v', mj, fun p e => by rw [hd p e]; exact r7 p e, r8⟩)
    · exact .inr (.inr ⟨r4, r5, v', nm', ob', r6, r7, fun p e => by rw [hd p e]; exact r8 p e, r9⟩)
end
end Go.Ev
end
section
set_option linter.all false
set_option linter.unusedVariables false
set_option linter.unusedSimpArgs false
namespace Go.Ev
open Go
section
variable {P : Program} {N : Nat} {ops : Array Oper} {rs : Array RO} {bf : Array Nat} {ρ0 : Env} {n0 : Pos} {m0 : Mem} {w0 : World}
variable {cl : Cl} {rl : Rl} {cx : Cx} {b : Frame} {cs : List Frame} {kk : List Item} {c : Fm → Mem → Pos → LD → Prop → Prop}
theorem lin_mem : ∀ (suf pre : List Nat), linR bf ops.size pre suf = true → ∀ i, i < ops.size → i ∈ pre ∨ i ∈ suf
  | [], pre, h, i, hi => by
    simp only [linR] at h
    have := List.all_eq_true.1 h i (List.mem_range.2 hi)
    exact .inl (by simpa using this)
  | j :: suf, pre, h, i, hi => by
    simp only [linR, Bool.and_eq_true] at h
    rcases lin_mem suf (j :: pre) h.2.2.2 i hi with h1 | h1
    · rcases List.mem_cons.1 h1 with rfl | h1
      · exact .inr (by simp)
      · exact .inl h1
    · exact .inr (List.mem_cons_of_mem _ h1)
/-- Whatever order is drawn, the machine comes to what the evaluator comes to. -/
theorem draw_ok (hcl : ClOk P cl) (hrl : RlOk P rl) (fcl : FCl cl) (frl : FRl rl) (hs : Sta P N ops rs bf) (hc : ∀ fr m n ld, c fr m n ld False = False) : ∀ (σ dn suf pre : List Nat) (lt : List (Nat × Pos)) fr m n ld ρ w a r k,
    Sched ops dn σ → Inv P N ops rs bf ρ0 n0 m0 w0 pre dn lt fr m n ld ρ w a → mixR rs bf pre suf = some r → linR bf ops.size pre suf = true → restR rs bf pre suf = true → regK false cl rl cx r fr m n ld c k →
    (suf = [] ∨ ∃ s r x, suf = s :: r ∧ rs[s]? = some x ∧ kd x.o = .s) → CxR ρ cx b cs →
    ∃ fr' m' n' ld' k' ρ' w' a', c fr' m' n' ld' k' ∧ Gon P ρ0 n0 m0 w0 ρ' n' m' w' ∧ ActR ρ' N fr' ld' a' ∧ Steps P (lone (b.atR a (.inRegion ops σ :: kk)) cs w) (lone (b.atR a' kk) cs w')
  | [], dn, suf, pre, lt, fr, m, n, ld, ρ, w, a, r, k, hS, I, h1, h2, h3, h, hend, hcx => by
    have hall : ∀ i, i < ops.size → i ∈ dn := hS
    have hsuf : suf = [] := by
      rcases hend with h4 | ⟨s, r', x, rfl, h5, h6⟩
      · exact h4
      · simp only [linR, Bool.and_eq_true, decide_eq_true_eq] at h2
        have h7 : s ∉ pre := by simpa using h2.2.1
        exact absurd (I.sub s (hall s h2.1)) h7
    subst hsuf
    simp only [mixR, Option.some.injEq] at h1; subst h1
    obtain ⟨mD, d1, d2⟩ := I.md
    have hlt : lt = [] := by
      cases lt with
      | nil => rfl
      | cons e l =>
        obtain ⟨i, p⟩ := e
        obtain ⟨e1, e2, _⟩ := I.ltok i p (by simp)
        exact absurd (hall i (I.bnd i e1)) e2
    subst hlt
    refine ⟨fr, m, n, ld, k, ρ, w, a, h, d2.same fun p ob hp => by rw [d1]; simpa using hp, ⟨⟨I.size, fun p v hp => I.rt p v hp fun i x hx _ hpre => hall i (I.bnd i hpre)⟩, I.ldr⟩, Steps.one stepR_region_end⟩
  | i :: σ, dn, suf, pre, lt, fr, m, n, ld, ρ, w, a, r, k, hS, I, h1, h2, h3, h, hend, hcx => by
    obtain ⟨hlt, hnd, hed, hS'⟩ := hS
    obtain ⟨o, ho⟩ : ∃ o, ops[i]? = some o := ⟨ops[i], by simp [hlt]⟩
    obtain ⟨x, hx, hlow⟩ := hs.low ho
    have hbef : ∀ j, j < ops.size → befB bf j i = true → j ∈ dn := fun j hj hb => by
      obtain ⟨e, he, hb1, hb2⟩ := hs.via ho hj hb
      have h4 := hed o ho e he hb1
      rcases hb2 with rfl | hb2
      · exact h4
      · exact I.dcl e.on j h4 hj hb2
    by_cases hp : i ∈ pre
    · obtain ⟨lt', ρ', w', a', I', he, hst⟩ := late_ok (kk := kk) (b := b) (cs := cs) (rest := σ) hs I ho hx hlow hp hnd hbef
      obtain ⟨fr2, m2, n2, ld2, k2, ρ2, w2, a2, q1, q2, q3, q4⟩ := draw_ok hcl hrl fcl frl hs hc σ (i :: dn) suf pre lt' fr m n ld ρ' w' a' r k hS' I' h1 h2 h3 h hend (hcx.mono he)
      exact ⟨fr2, m2, n2, ld2, k2, ρ2, w2, a2, q1, q2, q3, Steps.trans hst q4⟩
    · have hin : i ∈ suf := (lin_mem suf pre h2 i hlt).resolve_left hp
      rcases hend with rfl | ⟨s, suf', xs, rfl, hxs, hks⟩
      · cases hin
      · have h1' := h1
        simp only [mixR, hxs] at h1
        rw [if_pos (by simp [hks]), if_pos (by simp [hks])] at h1
        split at h1
        · rename_i re hd r' hre hhd hr'
          injection h1 with h1; subst h1
          simp only [linR, Bool.and_eq_true, decide_eq_true_eq] at h2
          obtain ⟨hslt, hsnp, hall, hlin'⟩ := h2
          have hsp : s ∉ pre := by simpa using hsnp
          simp only [restR, hxs, hks, Bool.and_eq_true] at h3
          obtain ⟨hrest, hrest'⟩ := h3
          have his : i = s := by
            rcases List.mem_cons.1 hin with h4 | h4
            · exact h4
            · have h5 := List.all_eq_true.1 hrest i h4
              exact absurd (I.sub s (hbef s hslt h5)) hsp
          subst his
          rw [hx] at hxs; injection hxs with hxs; subst hxs
          obtain ⟨fr1, m1, n1, ld1, k1, ρ1, w1, a1, I1, g1, g2, g3⟩ := eff_ok (kk := kk) (b := b) (cs := cs) (rest := σ) hcl hrl fcl frl hs I ho hx hlow hp hbef hks hre hhd hc h hcx
          obtain ⟨suf2, pre2, lt2, fr2, m2, n2, r2, I2, j1, j2, j3, j4, j5⟩ := ahead hs suf' (i :: pre) lt fr1 m1 n1 r' I1 hr' hlin' hrest' g1
          obtain ⟨fr3, m3, n3, ld3, k3, ρ3, w3, a3, q1, q2, q3, q4⟩ := draw_ok hcl hrl fcl frl hs hc σ (i :: dn) suf2 pre2 lt2 fr2 m2 n2 ld1 ρ1 w1 a1 r2 k1 hS' I2 j1 j2 j3 j4 j5 (hcx.mono g2)
          exact ⟨fr3, m3, n3, ld3, k3, ρ3, w3, a3, q1, q2, q3, Steps.trans g3 q4⟩
        · cases h1
variable {fr : Fm} {m : Mem} {n : Pos} {ld : LD} {ρ : Env} {w : World} {a : Act} {k : Prop}
/-- A region, whether its order is drawn or not. -/
theorem reg_ok (hmix : P.follows .mixedOrders = true) (hcl : ClOk P cl) (hrl : RlOk P rl) (fcl : FCl cl) (frl : FRl rl) {id : Nat} {draw : Bool} {r : LR} (hr : lowReg P N ops draw = some r) (hc : ∀ fr m n ld, c fr m n ld False = False) (h : regK false cl rl cx r fr m n ld c k)
    (hm : Rel P ρ n m w) (hf : Fre ρ n) (ha : ActR ρ N fr ld a) (hcx : CxR ρ cx b cs) :
    ∃ fr' m' n' ld' k' ρ' w' a', c fr' m' n' ld' k' ∧ Gon P ρ n m w ρ' n' m' w' ∧ ActR ρ' N fr' ld' a' ∧ Steps P (lone (b.atR a (.code (.region id ops draw) :: kk)) cs w) (lone (b.atR a' kk) cs w') := by
  unfold lowReg at hr
  split at hr
  · cases hr
  · rename_i rs hrs
    split at hr
    · rename_i hd
      subst hd
      dsimp only at hr
      split at hr
      · rename_i l hl
        split at hr
        · rename_i hfine
          unfold fineR at hfine
          simp only [Bool.and_eq_true] at hfine
          obtain ⟨f1, f2, f3, f4⟩ := hfine
          have hs := sta_of hrs f1 f2
          let w1 : World := { w with drawn := w.drawn + 1 }
          have hm1 : Rel P ρ n m w1 := hm.drew _
          have hg1 : Gon P ρ n m w ρ n m w1 := ⟨Nat.le_refl _, hf, Evo.drew hm (Nat.le_succ _)⟩
          have I : Inv P N ops rs.toArray (Region.before ops) ρ n m w [] [] [] fr m n ld ρ w1 a :=
            { md := ⟨m, fun p => (by simp), hg1⟩, size := ha.rt.1, ldr := ha.ld, rt := fun p v hp _ => ha.rt.2 p v hp, sub := fun i hi => (by cases hi), dcl := fun i j hi => (by cases hi), pcl := fun i j hi => (by cases hi), bnd := fun i hi => (by cases hi),
              late := fun i x o _ _ hi => (by cases hi), ltok := fun i p hi => (by cases hi), ltinj := fun i j p q hi => (by cases hi) }
          obtain ⟨suf2, pre2, lt2, fr2, m2, n2, r2, I2, j1, j2, j3, j4, j5⟩ := ahead hs l [] [] fr m n r I hr f3 f4 h
          obtain ⟨fr3, m3, n3, ld3, k3, ρ3, w3, a3, q1, q2, q3, q4⟩ := draw_ok (kk := kk) (b := b) (cs := cs) hcl hrl fcl frl hs hc _ [] suf2 pre2 lt2 fr2 m2 n2 ld ρ w1 a r2 k (sched_ok hs.edge (w.tape w.drawn (.order b.fn id))) I2 j1 j2 j3 j4 j5 hcx
          refine ⟨fr3, m3, n3, ld3, k3, ρ3, w3, a3, q1, q2, q3, Steps.trans (Steps.one stepR_region_draw) ?_⟩
          rw [hmix]; exact q4
        · cases hr
      · cases hr
    · rename_i hd
      have hd' : draw = false := by simpa using hd
      subst hd'
      injection hr with hr; subst hr
      obtain ⟨fr3, m3, n3, ld3, k3, ρ3, w3, a3, q1, q2, q3, q4⟩ := line_ok (kk := kk) (b := b) (cs := cs) hcl hrl fcl frl hc ops.toList 0 rs rfl hrs fr m n ld k ρ w a h hm hf ha hcx
      refine ⟨fr3, m3, n3, ld3, k3, ρ3, w3, a3, q1, q2, q3, Steps.trans (Steps.one stepR_region) ?_⟩
      rw [List.range_eq_range']
      simpa using q4
end
end Go.Ev
end
section
set_option linter.all false
set_option linter.unusedVariables false
set_option linter.unusedSimpArgs false
namespace Go.Ev
open Go
/-- What is left to do. -/
def TR (P : Program) (N : Nat) (ρ : Env) : LT → List Item → Prop
  | .nil, k => k = []
  | .code c t, k => ∃ C k', k = .code C :: k' ∧ lowC P N C = c ∧ TR P N ρ t k'
  | .blk id t, k => ∃ k', k = .inBlock id :: k' ∧ TR P N ρ t k'
  | .lp b t, k => ∃ B k', k = .inLoop B :: k' ∧ lowC P N B = b ∧ TR P N ρ t k'
  | .scp b t, k => ∃ B k', k = .inScope B :: k' ∧ lowC P N B = b ∧ TR P N ρ t k'
  | .erf p t, k => ∃ l j k', k = .endRangeFunc l :: k' ∧ ρ p = some (l, j) ∧ TR P N ρ t k'
  | .beg t, k => ∃ k', k = .beginRound :: k' ∧ TR P N ρ t k'
theorem TR.mono {P : Program} {N : Nat} {ρ ρ' : Env} (he : Ext ρ ρ') : ∀ (t : LT) (k : List Item), TR P N ρ t k → TR P N ρ' t k
  | .nil, _, h => h
  | .code c t, k, ⟨C, k', h1, h2, h3⟩ => ⟨C, k', h1, h2, TR.mono he t k' h3⟩
  | .blk id t, k, ⟨k', h1, h3⟩ => ⟨k', h1, TR.mono he t k' h3⟩
  | .lp b t, k, ⟨B, k', h1, h2, h3⟩ => ⟨B, k', h1, h2, TR.mono he t k' h3⟩
  | .scp b t, k, ⟨B, k', h1, h2, h3⟩ => ⟨B, k', h1, h2, TR.mono he t k' h3⟩
  | .erf p t, k, ⟨l, j, k', h1, h2, h3⟩ => ⟨l, j, k', h1, he _ _ h2, TR.mono he t k' h3⟩
  | .beg t, k, ⟨k', h1, h3⟩ => ⟨k', h1, TR.mono he t k' h3⟩
/-- A frame comes to where it leaves. -/
def Left (P : Program) (M : Machine) (b : Frame) (cs : List Frame) (a : Act) (w : World) : LJ → Prop
  | .no => Steps P M (lone (b.atR a []) cs w)
  | .ret => ∃ k, Steps P M (lone (b.atR a (.code .ret :: k)) cs w)
  | .exit id => ∃ k, exitTo id k = none ∧ Steps P M (lone (b.atR a (.code (.exit id) :: k)) cs w)
  | .goto l => ∃ k, gotoIn l k = none ∧ Steps P M (lone (b.atR a (.code (.goto l) :: k)) cs w)
theorem Left.of {P : Program} {M M' : Machine} {b : Frame} {cs : List Frame} {a : Act} {w : World} {j : LJ} (h : Steps P M M') (k : Left P M' b cs a w j) : Left P M b cs a w j := by
  cases j with
  | no => exact Steps.trans h k
  | ret => obtain ⟨x, k⟩ := k; exact ⟨x, Steps.trans h k⟩
  | exit id => obtain ⟨x, e, k⟩ := k; exact ⟨x, e, Steps.trans h k⟩
  | goto l => obtain ⟨x, e, k⟩ := k; exact ⟨x, e, Steps.trans h k⟩
/-- A way to evaluate code is sound. -/
def ETOk (P : Program) (ev : ET) : Prop := ∀ cx t fr m n ld (lv : Lv) k, (∀ j fr m n ld, lv j fr m n ld False = False) → ev cx t fr m n ld lv k → ∀ N ρ w a b kk cs, Rel P ρ n m w → Fre ρ n → ActR ρ N fr ld a → CxR ρ cx b cs → TR P N ρ t kk →
  ∃ j fr' m' n' ld' k' ρ' w' a', lv j fr' m' n' ld' k' ∧ Gon P ρ n m w ρ' n' m' w' ∧ ActR ρ' N fr' ld' a' ∧ Left P (lone (b.atR a kk) cs w) b cs a' w' j
theorem noLD_ok {ld : LD} {c : Prop} (h : noLD ld c) : ld = .nil ∧ c := by cases ld <;> first | exact ⟨rfl, h⟩ | exact h.elim
theorem retK_ok {j : LJ} {c : Prop} (h : retK j c) : (j = .no ∨ j = .ret) ∧ c := by cases j <;> first | exact ⟨.inl rfl, h⟩ | exact ⟨.inr rfl, h⟩ | exact h.elim
theorem onLoop_ok {c : LS → LJ → Fm → Ps → LC → LC → Prop} {o : SO} (h : SO.onLoop c o) : ∃ s p f q x y, o = .loop s p f q x y ∧ c s p f q x y := by
  cases o <;> first | exact h.elim | exact ⟨_, _, _, _, _, _, rfl, h⟩
theorem onDefd_ok {c : LD → Prop} {o : SO} (h : SO.onDefd c o) : ∃ l, o = .defd l ∧ c l := by
  cases o <;> first | exact h.elim | exact ⟨_, rfl, h⟩
section
variable {P : Program}
/-! Results. -/
def resG (t : Array Value) : ResultVar → Sem Value
  | .tmp u => pure (t.getD u undef)
  | .cell a T => do loadVar T (← asAddr (t.getD a undef))
theorem res_ok {fr : Fm} {m : Mem} : ∀ (l : List ResultVar) (rs : RS) (C : SV → Prop), lowRes P l = some rs → resK rs fr m C → ∃ s, C s ∧ ∀ ρ n w N (t : Array Value), Rel P ρ n m w → RT ρ N fr t →
    ∃ vs, LV ρ s vs ∧ (l.mapM (resG t)).run P w = .ok vs w
  | [], rs, C, h, hr => by
    simp only [lowRes, Option.some.injEq] at h; subst h
    exact ⟨.nil, hr, fun ρ n w N t _ _ => ⟨[], LV_nil.2 rfl, by simp⟩⟩
  | .tmp u :: l, rs, C, h, hr => by
    simp only [lowRes] at h
    obtain ⟨rs', hrs, rfl⟩ := map_some h
    obtain ⟨v, h1, h2⟩ := getK_ok _ _ _ hr
    obtain ⟨s, h3, h4⟩ := res_ok l rs' (fun l => C (.cons v l)) hrs h2
    refine ⟨_, h3, fun ρ n w N t hm ht => ?_⟩
    obtain ⟨vs, h5, h6⟩ := h4 ρ n w N t hm ht
    obtain ⟨y, h7, h8⟩ := ht.2 _ _ h1
    rw [Pos.nat_of] at h7
    refine ⟨y :: vs, LV_cons.2 ⟨y, vs, h8, h5, rfl⟩, ?_⟩
    have h9 : t.getD u undef = y := by simp [h7]
    simp only [List.mapM_cons, resG, Sem.run_bind, Sem.run_pure, Result.andThen_ok, h9, h6]
  | .cell u T :: l, rs, C, h, hr => by
    simp only [lowRes] at h
    split at h
    · rename_i rd rs' hrd hrs
      injection h with h; subst h
      have hr' : qLoad rd (.tmp (Pos.of u)) fr m fun v => resK rs' fr m fun l => C (.cons v l) := hr
      obtain ⟨v, h1, h2⟩ := getK_ok _ _ _ hr'
      obtain ⟨b, o, rfl, h3⟩ := onPtr_ok h2
      obtain ⟨ob, h4, h5⟩ := getK_ok _ _ _ h3
      obtain ⟨c, h6, h6'⟩ := onRow_ok h5
      obtain ⟨x, h7, h8⟩ := partK_ok hrd h6
      obtain ⟨s, h9, h10⟩ := res_ok l rs' (fun l => C (.cons x l)) hrs h7
      refine ⟨_, h9, fun ρ n w N t hm ht => ?_⟩
      obtain ⟨vs, h11, h12⟩ := h10 ρ n w N t hm ht
      obtain ⟨y, h13, h14⟩ := ht.2 _ _ h1
      rw [Pos.nat_of] at h13
      simp only [VR] at h14
      obtain ⟨a, k, h15, rfl⟩ := h14
      obtain ⟨l', hl', vs', zs, T', f, h16, h17, _⟩ := hm.row (c := fun r => r = c) h4 h15 (by rcases h6' with rfl | ⟨z, rfl⟩ <;> rfl)
      subst hl'
      obtain ⟨z, h18, _, h19⟩ := h8 ρ vs' h17
      refine ⟨z :: vs, LV_cons.2 ⟨z, vs, h18, h11, rfl⟩, ?_⟩
      have h20 : t.getD u undef = .pointer (some ⟨a, o, none⟩) := by simp [h13]
      simp only [List.mapM_cons, resG, Sem.run_bind, Sem.run_pure, Result.andThen_ok, h20, asAddr, h19 w a zs T' f h16, h12]
    · cases h
theorem oneRes_ok {l : SV} {C : SV → Prop} (h : oneRes l C) : ∃ v, C v ∧ ∀ ρ vs, LV ρ l vs → VR ρ v (if h : vs.toArray.size = 1 then vs.toArray[0] else .tuple vs.toArray) := by
  cases l with
  | nil =>
    refine ⟨_, h, fun ρ vs e => ?_⟩
    rw [LV_nil] at e; subst e
    simp only [VR]; exact ⟨[], LV_nil.2 rfl, rfl⟩
  | cons a t =>
    cases t with
    | nil =>
      refine ⟨a, h, fun ρ vs e => ?_⟩
      obtain ⟨v, r, e1, e2, rfl⟩ := LV_cons.1 e
      rw [LV_nil] at e2; subst e2
      simpa using e1
    | cons c u =>
      refine ⟨_, h, fun ρ vs e => ?_⟩
      obtain ⟨v, r, e1, e2, rfl⟩ := LV_cons.1 e
      obtain ⟨v', r', e3, e4, rfl⟩ := LV_cons.1 e2
      rw [dif_neg (by simp)]
      simp only [VR]
      exact ⟨_, e, rfl⟩
    | _ => exact h.elim
  | _ => exact h.elim
theorem results_run {fn : Func} {rs : RS} {fr : Fm} {m : Mem} {C : SV → Prop} (h : lowRes P fn.results.toList = some rs) (hr : resK rs fr m C) : ∃ s, C s ∧ ∀ ρ n w N (t : Array Value), Rel P ρ n m w → RT ρ N fr t →
    ∃ vs, LV ρ s vs ∧ (results fn t).run P w = .ok (if h : vs.toArray.size = 1 then vs.toArray[0] else .tuple vs.toArray) w := by
  obtain ⟨s, h1, h2⟩ := res_ok _ _ C h hr
  refine ⟨s, h1, fun ρ n w N t hm ht => ?_⟩
  obtain ⟨vs, h3, h4⟩ := h2 ρ n w N t hm ht
  refine ⟨vs, h3, ?_⟩
  have hg : results fn t = (do let vs ← fn.results.mapM (resG t); pure (if h : vs.size = 1 then vs[0] else .tuple vs)) := by
    unfold results
    congr 1
  rw [hg, Array.mapM_eq_mapM_toList]
  simp only [Sem.run_bind, map_eq_pure_bind, Sem.run_pure, bind_assoc]
  rw [h4]
  simp [Result.andThen]
/-! Entry. -/
theorem ent_ok : ∀ (k s : Nat) (l : SV) (fr : Fm) (C : Fm → Prop), entK (firstPs k s) l fr C → ∃ fr', C fr' ∧ ∀ ρ vs, LV ρ l vs → vs.length ≤ k ∧ ∀ p v, Tr.get p fr' = some v → (Tr.get p fr = some v ∧ (p.nat < s ∨ s + vs.length ≤ p.nat)) ∨ ∃ i x, p.nat = s + i ∧ vs[i]? = some x ∧ VR ρ v x
  | 0, s, l, fr, C, h => by
    obtain ⟨rfl, h1⟩ := onNil_ok h
    refine ⟨fr, h1, fun ρ vs e => ?_⟩
    rw [LV_nil] at e; subst e
    exact ⟨Nat.le_refl _, fun p v hp => .inl ⟨hp, by simp; omega⟩⟩
  | k + 1, s, l, fr, C, h => by
    cases l with
    | nil =>
      refine ⟨fr, h, fun ρ vs e => ?_⟩
      rw [LV_nil] at e; subst e
      exact ⟨Nat.zero_le _, fun p v hp => .inl ⟨hp, by simp; omega⟩⟩
    | cons a t =>
      have h1 := putK_ok _ _ _ _ h
      obtain ⟨fr', h2, h3⟩ := ent_ok k (s + 1) t _ C h1
      refine ⟨fr', h2, fun ρ vs e => ?_⟩
      obtain ⟨v, r, e1, e2, rfl⟩ := LV_cons.1 e
      obtain ⟨h4, h5⟩ := h3 ρ r e2
      refine ⟨by simpa using h4, fun p u hp => ?_⟩
      rcases h5 p u hp with ⟨h6, h7⟩ | ⟨i, x, h6, h7, h8⟩
      · by_cases e3 : Pos.of s = p
        · subst e3
          rw [get_put_same] at h6; injection h6 with h6; subst h6
          exact .inr ⟨0, v, by rw [Pos.nat_of]; rfl, rfl, e1⟩
        · rw [get_put_ne _ _ _ _ e3] at h6
          have e4 : p.nat ≠ s := fun e4 => e3 (Pos.nat_inj (by rw [Pos.nat_of, e4]))
          exact .inl ⟨h6, by simp only [List.length_cons]; omega⟩
      · exact .inr ⟨i + 1, x, by omega, by simpa using h7, h8⟩
    | _ => exact h.elim
theorem ent_rt {k : Nat} {l : SV} {C : Fm → Prop} (h : entK (firstPs k 0) l .leaf C) : ∃ fr', C fr' ∧ ∀ ρ vs, LV ρ l vs → RT ρ k fr' (vs.toArray ++ Array.replicate (k - vs.toArray.size) undef) := by
  obtain ⟨fr', h1, h2⟩ := ent_ok k 0 l .leaf C h
  refine ⟨fr', h1, fun ρ vs e => ?_⟩
  obtain ⟨h3, h4⟩ := h2 ρ vs e
  refine ⟨by simp; omega, fun p v hp => ?_⟩
  rcases h4 p v hp with ⟨h5, _⟩ | ⟨i, x, h5, h6, h7⟩
  · rw [get_leaf] at h5; cases h5
  · refine ⟨x, ?_, h7⟩
    have hlt := (List.getElem?_eq_some_iff.1 h6).1
    rw [h5, Nat.zero_add, Array.getElem?_append_left (by simpa using hlt)]
    simpa using h6
theorem lowF_parts {f : Nat} {lf : LF} (h : lowF P f = some lf) : ∃ fn c rs, P.funcs[f]? = some fn ∧ fn.body = some c ∧ lowRes P fn.results.toList = some rs ∧ lf = ⟨firstPs fn.ntmps 0, rs, lowC P fn.ntmps c⟩ ∧ Ent P f := by
  unfold lowF at h
  split at h
  · rename_i fn hfn
    split at h
    · rename_i c rs hb hrs
      split at h
      · cases h
      · rename_i hname
        injection h with h
        exact ⟨fn, c, rs, hfn, hb, hrs, h.symm, fn, hfn, by rw [hb]; rfl, by simpa using hname⟩
    · cases h
  · cases h
/-- A function runs to where it returns. -/
theorem body_ok {ev : ET} (hev : ETOk P ev) {cx : Cx} {kd : CallKind} (hcx : cx = .plain ∧ kd = .normal ∨ cx = .dfr ∧ kd = .deferred) {f : Nat} {lf : LF} (hlf : lowF P f = some lf) {l : SV} {m : Mem} {n : Pos} {c : Fm → Mem → Pos → LD → Prop → Prop} {k : Prop} (hc : ∀ fr m n ld, c fr m n ld False = False)
    (h : body ev cx lf l m n c k) {ρ : Env} {w : World} {vs : List Value} (hm : Rel P ρ n m w) (hf : Fre ρ n) (hl : LV ρ l vs) {cs : List Frame} (hcs : cx = .dfr → ∃ c cs', cs = c :: cs' ∧ c.mode = .returning) :
    ∃ fr' m' n' ld' k' ρ' w' fx N, c fr' m' n' ld' k' ∧ Gon P ρ n m w ρ' n' m' w' ∧ fx.fn = f ∧ fx.mode = .returning ∧ fx.kind = kd ∧ RT ρ' N fr' fx.tmps ∧ LDR ρ' ld' fx.defers ∧ Steps P (lone (Frame.enter P f vs.toArray kd) cs w) (lone fx cs w') := by
  obtain ⟨fn, C, rs, h1, h2, h3, rfl, _⟩ := lowF_parts hlf
  obtain ⟨fr0, h4, h5⟩ := ent_rt (C := fun fr => ev cx (.code (lowC P fn.ntmps C) .nil) fr m n .nil (fun j fr m n ld k => retK j (c fr m n ld k)) k) h
  let b : Frame := { (default : Frame) with fn := f, kind := kd, roundOf := none }
  let a : Act := { tmps := vs.toArray ++ Array.replicate (fn.ntmps - vs.toArray.size) undef, defers := [] }
  have henter : Frame.enter P f vs.toArray kd = b.atR a [.code C] := by simp [Frame.enter, Frame.atR, h1, h2, b, a]
  obtain ⟨j, fr', m', n', ld', k', ρ', w', a', g1, g2, g3, g4⟩ := hev cx _ fr0 m n .nil _ k (fun j fr m n ld => by simp only [hc, f_retK]) h4 fn.ntmps ρ w a b [.code C] cs hm hf ⟨h5 ρ vs hl, rfl⟩
    (by rcases hcx with ⟨rfl, rfl⟩ | ⟨rfl, rfl⟩
        · exact ⟨rfl, rfl⟩
        · exact ⟨rfl, rfl, hcs rfl⟩) ⟨C, [], rfl, rfl, rfl⟩
  obtain ⟨g5, g6⟩ := retK_ok g1
  rw [henter]
  rcases g5 with rfl | rfl
  · exact ⟨fr', m', n', ld', k', ρ', w', { b.atR a' [] with mode := .returning }, fn.ntmps, g6, g2, rfl, rfl, rfl, g3.rt, g3.ld, Steps.trans g4 (Steps.one (stepR_end rfl))⟩
  · obtain ⟨kx, g7⟩ := g4
    exact ⟨fr', m', n', ld', k', ρ', w', { b.atR a' (.code .ret :: kx) with mode := .returning }, fn.ntmps, g6, g2, rfl, rfl, rfl, g3.rt, g3.ld, Steps.trans g7 (Steps.one (stepR_ret rfl))⟩
/-- The deferred calls of a frame that returns. -/
theorem unw_ok {ev : ET} (hev : ETOk P ev) (fev : FEv ev) : ∀ (ld : LD) (m : Mem) (n : Pos) (C : Mem → Pos → Prop → Prop) (k : Prop), (∀ m n, C m n False = False) → unwK P lowF ev ld m n C k → ∀ ρ w fx cs, Rel P ρ n m w → Fre ρ n → fx.mode = .returning → LDR ρ ld fx.defers →
    ∃ m' n' k' ρ' w', C m' n' k' ∧ Gon P ρ n m w ρ' n' m' w' ∧ Steps P (lone fx cs w) (lone { fx with defers := [] } cs w')
  | .nil, m, n, C, k, hC, h, ρ, w, fx, cs, hm, hf, hmode, hd => by
    have hd' : fx.defers = [] := hd
    have : ({ fx with defers := [] } : Frame) = fx := by rw [← hd']
    exact ⟨m, n, k, ρ, w, h, .refl hm hf, by rw [this]; exact .refl P _⟩
  | .coll p r, m, n, C, k, hC, h, ρ, w, fx, cs, hm, hf, hmode, hd => by
    obtain ⟨ob, h1, h2⟩ := getK_ok p m _ h
    obtain ⟨l, rfl, h3⟩ := onDefd_ok h2
    obtain ⟨rfl, h4⟩ := noLD_ok h3
    have h5 := putK_ok p m _ _ h4
    obtain ⟨a, j, D', e1, e2, e3⟩ := hd
    obtain ⟨oi, e4, e5⟩ := hm.at h1 e1
    obtain ⟨D, rfl, e6⟩ := e5
    have hD : D = [] := e6
    subst hD
    have hstep := step_collected (P := P) (cs := cs) (by rw [hmode]; simp) e3 rfl (run_takeDeferred (P := P) e4)
    have hev1 := evo_set hm h1 e1 (ob' := .gone) (real := .deferred none) trivial
    have hg1 := hev1.gon (Nat.le_refl _) hf
    obtain ⟨m2, n2, k2, ρ2, w2, q1, q2, q3⟩ := unw_ok hev fev r _ n C k hC h5 ρ _ { fx with defers := [] ++ D' } cs hg1.rel hf hmode e2
    exact ⟨m2, n2, k2, ρ2, w2, q1, hg1.trans q2, Steps.trans (Steps.one hstep) q3⟩
  | .call fn l r, m, n, C, k, hC, h, ρ, w, fx, cs, hm, hf, hmode, hd => by
    have h' : @Option.rec LF (fun _ => Prop) False (fun f => body ev .dfr f l m n (fun fr m n ld k => noLD ld (@LF.rec (fun _ => Prop) (fun _ rs _ => resK rs fr m fun _ => unwK P lowF ev r m n C k) f)) k) (lowF P fn) := h
    cases hlf : lowF P fn with
    | none => rw [hlf] at h'; exact h'.elim
    | some lf =>
      rw [hlf] at h'
      obtain ⟨xs, ys, D', e1, e2, e3⟩ := hd
      obtain ⟨fnn, Cc, rs, h1, h2, h3, h0, hent⟩ := lowF_parts hlf
      subst h0
      have hinv : (invoke (.fn (.func fn) ys.toArray) xs.toArray).run P w = .ok (.enter fn (xs ++ ys).toArray) w := by
        simp only [invoke]
        rw [run_enter hent]
        congr 2
        simp
      have hstep := step_defer (P := P) (cs := cs) (by rw [hmode]; simp) e3 rfl hinv
      obtain ⟨fr', m', n', ld', k', ρ', w', fy, N, g1, g2, g3, g4, g5, g6, g7, g8⟩ := body_ok hev (.inr ⟨rfl, rfl⟩) hlf (fun fr m n ld => by simp only [f_unwK fev r _ _ C hC, f_resK, f_noLD]) h' hm hf e1 (cs := { fx with defers := D' } :: cs) (fun _ => ⟨_, _, rfl, hmode⟩)
      obtain ⟨rfl, g9⟩ := noLD_ok g1
      obtain ⟨s, g10, g11⟩ := results_run h3 g9
      obtain ⟨vs, _, g12⟩ := g11 ρ' n' w' N fy.tmps g2.rel g6
      have hgo : fy.going P w' (.returned _) := ⟨g4, g7, fnn, by rw [g3]; exact h1, g12⟩
      have hstep2 := step_going_returned (c := { fx with defers := D' }) (cs := cs) g5 hgo
      have hset : ({ ({ fx with defers := D' } : Frame) with mode := settle ({ fx with defers := D' } : Frame).mode } : Frame) = { fx with defers := D' } := by
        simp [hmode, settle]
      rw [hset] at hstep2
      obtain ⟨m2, n2, k2, ρ2, w2, q1, q2, q3⟩ := unw_ok hev fev r m' n' C k' hC g10 ρ' w' { fx with defers := D' } cs g2.rel g2.fre hmode (e2.mono g2.ext)
      exact ⟨m2, n2, k2, ρ2, w2, q1, g2.trans q2, Steps.trans (Steps.one hstep) (Steps.trans g8 (Steps.trans (Steps.one hstep2) q3))⟩
/-- Calls of functions of the program. -/
theorem callF_ok {ev : ET} (hev : ETOk P ev) (fev : FEv ev) : ClOk P (callF P lowF ev) := by
  intro fn l m n c k hc h ρ w vs hm hf hl
  have h' : @Option.rec LF (fun _ => Prop) False (fun f => body ev .plain f l m n (fun fr m n ld k => unwK P lowF ev ld m n (fun m n k => @LF.rec (fun _ => Prop) (fun _ rs _ => resK rs fr m fun l => oneRes l fun v => c v m n k) f) k) k) (lowF P fn) := h
  cases hlf : lowF P fn with
  | none => rw [hlf] at h'; exact h'.elim
  | some lf =>
    rw [hlf] at h'
    obtain ⟨fnn, Cc, rs, h1, h2, h3, h0, hent⟩ := lowF_parts hlf
    subst h0
    refine ⟨hent, fun cs => ?_⟩
    obtain ⟨fr', m', n', ld', k', ρ', w', fy, N, g1, g2, g3, g4, g5, g6, g7, g8⟩ := body_ok hev (.inl ⟨rfl, rfl⟩) hlf (fun fr m n ld => f_unwK fev ld m n _ fun m n => by simp only [hc, f_oneRes, f_resK]) h' hm hf hl (cs := cs) (fun e => by cases e)
    obtain ⟨m2, n2, k2, ρ2, w2, q1, q2, q3⟩ := unw_ok hev fev ld' m' n' _ k' (fun m n => by simp only [hc, f_oneRes, f_resK]) g1 ρ' w' fy cs g2.rel g2.fre g4 g7
    obtain ⟨s, q4, q5⟩ := results_run h3 q1
    obtain ⟨v, q6, q7⟩ := oneRes_ok q4
    obtain ⟨us, q8, q9⟩ := q5 ρ2 n2 w2 N fy.tmps q2.rel (g6.mono q2.ext)
    refine ⟨.returned _, w2, { fy with defers := [] }, ⟨v, m2, n2, k2, ρ2, _, q6, rfl, g2.trans q2, q7 ρ2 us q8⟩, Steps.trans g8 q3, g3, g4, rfl, g5, fnn, by rw [g3]; exact h1, q9⟩
/-! Rounds. -/
theorem ps_ok : ∀ (ts : List Tmp) (ps : Ps) (N : Nat) (l : SV) (fr : Fm) (C : Fm → Prop), lowPs' N ts = some ps → psK ps l fr C → ∃ fr', C fr' ∧ ∀ ρ vs (t : Array Value), LV ρ l vs → RT ρ N fr t → vs.length = ts.length ∧ RT ρ N fr' ((ts.zip vs).foldl (fun tmps (t, a) => tmps.setIfInBounds t a) t)
  | [], ps, N, l, fr, C, h, hp => by
    simp only [lowPs', Option.some.injEq] at h; subst h
    obtain ⟨rfl, h1⟩ := onNil_ok hp
    refine ⟨fr, h1, fun ρ vs t e ht => ?_⟩
    rw [LV_nil] at e; subst e
    exact ⟨rfl, ht⟩
  | u :: ts, ps, N, l, fr, C, h, hp => by
    simp only [lowPs'] at h
    split at h
    · rename_i hlt
      obtain ⟨ps', hps, rfl⟩ := map_some h
      obtain ⟨a, r, rfl, h1⟩ := onCons_ok hp
      have h2 := putK_ok _ _ _ _ h1
      obtain ⟨fr', h3, h4⟩ := ps_ok ts ps' N r _ C hps h2
      refine ⟨fr', h3, fun ρ vs t e ht => ?_⟩
      obtain ⟨v, vs', e1, e2, rfl⟩ := LV_cons.1 e
      have ht' : RT ρ N (Tr.put (Pos.of u) fr a) (t.setIfInBounds u v) := by
        have := RT.put (N := N) (a := { tmps := t, defers := [] }) (D := some u) (d := .to (Pos.of u)) ht (by simp [lowD, hlt]) e1
        exact this
      obtain ⟨h5, h6⟩ := h4 ρ vs' _ e2 ht'
      exact ⟨by simp [h5], h6⟩
    · cases h
theorem doneK_ok {j : LJ} {c : Bool → LS → Prop} (h : doneK j c) : c (JC j).isNone (if (JC j).isNone then .ready else .done) := by cases j <;> exact h
theorem roundF_ok {ev : ET} (hev : ETOk P ev) : RlOk P (roundF ev) := by
  intro bp l m n c k hc h ρ w vs a j hm hf hl hr
  obtain ⟨ob, h1, h2⟩ := getK_ok bp m _ h
  obtain ⟨s, pd, fr, ps, x, y, rfl, h3⟩ := onLoop_ok h2
  obtain ⟨oi, e1, e2⟩ := hm.at h1 hr
  obtain ⟨L, rfl, e3, e4, e5, e6, e7, e8⟩ := e2
  obtain ⟨fr', h4, h5⟩ := ps_ok L.params.toList ps L.tmps.size l fr _ e6 h3
  obtain ⟨h6, h7⟩ := h5 ρ vs L.tmps hl e5
  have hrun := run_yield (P := P) (args := vs.toArray) e1 (by simpa using h6)
  refine ⟨_, _, _, _, hrun, fun c0 cs => ?_⟩
  let tm := (L.params.zip vs.toArray).foldl (fun tmps (t, a) => tmps.setIfInBounds t a) L.tmps
  have htm : tm = (L.params.toList.zip vs).foldl (fun tmps (t, a) => tmps.setIfInBounds t a) L.tmps := by
    simp only [tm]
    rw [← Array.foldl_toList]
    simp
  let b : Frame := { (default : Frame) with fn := L.fn, kind := .normal, roundOf := some a }
  have henter : Frame.round a L.fn tm L.assign L.body .normal = b.atR { tmps := tm, defers := [] } [.code L.assign, .beginRound, .code L.body] := by simp [Frame.round, Frame.atR, b]
  have hF : ∀ (j : LJ) (fr : Fm) (m : Mem) (n : Pos) (ld : LD), (fun j (_ : Fm) m n ld k => noLD ld (Tr.getK bp m fun ob => SO.onLoop (fun _ _ fr ps x y => doneK j fun t st => Tr.putK bp m (.loop st j fr ps x y) fun m => c (.bool t) m n k) ob)) j fr m n ld False = False := fun j fr m n ld => by
    simp only [hc, f_putK, f_doneK, f_onLoop, f_getK, f_noLD]
  obtain ⟨j', fr2, m2, n2, ld2, k2, ρ2, w2, a2, g1, g2, g3, g4⟩ := hev (.round bp) _ fr' m n .nil _ k hF h4 L.tmps.size ρ w { tmps := tm, defers := [] } b [.code L.assign, .beginRound, .code L.body] (c0 :: cs) hm hf
    ⟨by rw [htm]; exact h7, rfl⟩ ⟨rfl, a, j, hr, rfl⟩ ⟨_, _, rfl, e7, _, rfl, _, _, rfl, e8, rfl⟩
  obtain ⟨rfl, g5⟩ := noLD_ok g1
  obtain ⟨ob2, g6, g7⟩ := getK_ok bp m2 _ g5
  obtain ⟨s2, pd2, fr3, ps2, x2, y2, rfl, g8⟩ := onLoop_ok g7
  have g9 := doneK_ok g8
  have g10 := putK_ok bp m2 _ _ g9
  have hr2 := g2.ext _ _ hr
  obtain ⟨oi2, q1, q2⟩ := g2.rel.at g6 hr2
  obtain ⟨L2, rfl, q3, q4, q5, q6, q7, q8⟩ := q2
  have hend := run_endRound (P := P) (JC j') q1
  have hst : ∀ (q : Bool), SL (if q then .ready else .done) = if q then .ready else .done := fun q => by cases q <;> rfl
  have hev2 := evo_set g2.rel g6 hr2 (ob' := .loop (if (JC j').isNone then .ready else .done) j' fr3 ps2 x2 y2) (real := .loop { L2 with state := if (JC j').isNone then .ready else .done, pending := JC j' }) ⟨_, rfl, (hst _).symm, rfl, q5, q6, q7, q8⟩
  have hg3 := g2.trans (hev2.gon (Nat.le_refl _) g2.fre)
  refine ⟨_, _, _, _, _, _, _, g10, hg3, (by simp only [VR] : VR ρ2 (.bool (JC j').isNone) (.bool (JC j').isNone)), ?_⟩
  rw [henter]
  cases j' with
  | no => exact Steps.trans g4 (Steps.one (stepR_round_end rfl rfl hend))
  | ret => obtain ⟨kx, g4⟩ := g4; exact Steps.trans g4 (Steps.one (stepR_round_ret rfl rfl hend))
  | exit id => obtain ⟨kx, g0, g4⟩ := g4; exact Steps.trans g4 (Steps.one (stepR_round_exit rfl rfl g0 hend))
  | goto t => obtain ⟨kx, g0, g4⟩ := g4; exact Steps.trans g4 (Steps.one (stepR_round_goto rfl rfl g0 hend))
end
end Go.Ev
end
section
set_option linter.all false
set_option linter.unusedVariables false
set_option linter.unusedSimpArgs false
namespace Go.Ev
open Go
section
variable {P : Program} {N : Nat} {ρ : Env}
section
variable {b : Frame} {a : Act} {k : List Item} {cs : List Frame} {w : World}
theorem stepR_scope' {c : Code} : step P (lone (b.atR a (.code (.scope c) :: k)) cs w) = .next (lone (b.atR a (.code c :: .inScope c :: k)) cs w) :=
  step_lone_go (by simp [stepG, stepG.exec, Frame.atR])
theorem stepR_inScope' {c : Code} : step P (lone (b.atR a (.inScope c :: k)) cs w) = .next (lone (b.atR a k) cs w) :=
  step_lone_go (by simp [stepG, stepG.exec, Frame.atR])
end
theorem exitK_ok {id : Nat} {A : LT → Prop} {B : Prop} : ∀ (t : LT) (k : List Item), TR P N ρ t k → exitK id t A B → (∃ t' k', exitTo id k = some k' ∧ TR P N ρ t' k' ∧ A t') ∨ (exitTo id k = none ∧ B)
  | .nil, k, ht, h => by
    have : k = [] := ht
    subst this; exact .inr ⟨rfl, h⟩
  | .code c t, _, ⟨C, k', e, _, ht⟩, h => by
    subst e
    rcases exitK_ok t k' ht h with ⟨t', k2, h1, h2⟩ | ⟨h1, h2⟩
    · exact .inl ⟨t', k2, by simpa [exitTo] using h1, h2⟩
    · exact .inr ⟨by simpa [exitTo] using h1, h2⟩
  | .blk j t, _, ⟨k', e, ht⟩, h => by
    subst e
    rcases bK_ok h with ⟨h1, h2⟩ | ⟨h1, h2⟩
    · have h3 := Nat.eq_of_beq_eq_true h1; subst h3
      exact .inl ⟨t, k', by simp [exitTo], ht, h2⟩
    · have h3 := beq_not.1 h1
      rcases exitK_ok t k' ht h2 with ⟨t', k2, h1, h2⟩ | ⟨h1, h2⟩
      · exact .inl ⟨t', k2, by simpa [exitTo, h3] using h1, h2⟩
      · exact .inr ⟨by simpa [exitTo, h3] using h1, h2⟩
  | .lp b t, _, ⟨C, k', e, _, ht⟩, h => by
    subst e
    rcases exitK_ok t k' ht h with ⟨t', k2, h1, h2⟩ | ⟨h1, h2⟩
    · exact .inl ⟨t', k2, by simpa [exitTo] using h1, h2⟩
    · exact .inr ⟨by simpa [exitTo] using h1, h2⟩
  | .scp b t, _, ⟨C, k', e, _, ht⟩, h => by
    subst e
    rcases exitK_ok t k' ht h with ⟨t', k2, h1, h2⟩ | ⟨h1, h2⟩
    · exact .inl ⟨t', k2, by simpa [exitTo] using h1, h2⟩
    · exact .inr ⟨by simpa [exitTo] using h1, h2⟩
  | .erf p t, _, ⟨l, j, k', e, _, ht⟩, h => by
    subst e
    rcases exitK_ok t k' ht h with ⟨t', k2, h1, h2⟩ | ⟨h1, h2⟩
    · exact .inl ⟨t', k2, by simpa [exitTo] using h1, h2⟩
    · exact .inr ⟨by simpa [exitTo] using h1, h2⟩
  | .beg t, _, ⟨k', e, ht⟩, h => by
    subst e
    rcases exitK_ok t k' ht h with ⟨t', k2, h1, h2⟩ | ⟨h1, h2⟩
    · exact .inl ⟨t', k2, by simpa [exitTo] using h1, h2⟩
    · exact .inr ⟨by simpa [exitTo] using h1, h2⟩
theorem labK_ok {l : Nat} : ∀ (C : Code) (A : LC → Prop) (B : Prop), labK l (lowC P N C) A B → (∃ R, findLabel C l = some R ∧ A (lowC P N R)) ∨ (findLabel C l = none ∧ B)
  | .seq x y, A, B, h => by
    rcases labK_ok x (fun r => A (.seq r (lowC P N y))) (labK l (lowC P N y) A B) h with ⟨R, h1, h2⟩ | ⟨h1, h2⟩
    · exact .inl ⟨.seq R y, by simp [findLabel, h1], h2⟩
    · rcases labK_ok y A B h2 with ⟨R, h3, h4⟩ | ⟨h3, h4⟩
      · exact .inl ⟨R, by simp [findLabel, h1, h3], h4⟩
      · exact .inr ⟨by simp [findLabel, h1, h3], h4⟩
  | .label l', A, B, h => by
    rcases bK_ok h with ⟨h1, h2⟩ | ⟨h1, h2⟩
    · have h3 := Nat.eq_of_beq_eq_true h1; subst h3
      exact .inl ⟨.skip, by simp [findLabel], h2⟩
    · have h3 := beq_not.1 h1
      exact .inr ⟨by simp [findLabel, h3], h2⟩
  | .skip, A, B, h => .inr ⟨rfl, h⟩
  | .region id ops d, A, B, h => .inr ⟨rfl, by
      simp only [lowC] at h
      split at h <;> exact h⟩
  | .cond c x y, A, B, h => .inr ⟨rfl, by
      simp only [lowC] at h
      split at h <;> exact h⟩
  | .block id x, A, B, h => .inr ⟨rfl, h⟩
  | .loop x, A, B, h => .inr ⟨rfl, h⟩
  | .rangeFunc f ps x y, A, B, h => .inr ⟨rfl, by
      simp only [lowC] at h
      split at h <;> exact h⟩
  | .exit id, A, B, h => .inr ⟨rfl, h⟩
  | .scope x, A, B, h => .inr ⟨rfl, h⟩
  | .goto l, A, B, h => .inr ⟨rfl, h⟩
  | .ret, A, B, h => .inr ⟨rfl, h⟩
  | .refuse _, A, B, h => .inr ⟨rfl, h⟩
theorem gotoK_ok {l : Nat} {A : LT → Prop} {B : Prop} : ∀ (t : LT) (k : List Item), TR P N ρ t k → gotoK l t A B → (∃ t' k', gotoIn l k = some k' ∧ TR P N ρ t' k' ∧ A t') ∨ (gotoIn l k = none ∧ B)
  | .nil, k, ht, h => by
    have : k = [] := ht
    subst this; exact .inr ⟨rfl, h⟩
  | .code c t, _, ⟨C, k', e, _, ht⟩, h => by
    subst e
    rcases gotoK_ok t k' ht h with ⟨t', k2, h1, h2⟩ | ⟨h1, h2⟩
    · exact .inl ⟨t', k2, by simpa [gotoIn] using h1, h2⟩
    · exact .inr ⟨by simpa [gotoIn] using h1, h2⟩
  | .blk j t, _, ⟨k', e, ht⟩, h => by
    subst e
    rcases gotoK_ok t k' ht h with ⟨t', k2, h1, h2⟩ | ⟨h1, h2⟩
    · exact .inl ⟨t', k2, by simpa [gotoIn] using h1, h2⟩
    · exact .inr ⟨by simpa [gotoIn] using h1, h2⟩
  | .lp b t, _, ⟨C, k', e, _, ht⟩, h => by
    subst e
    rcases gotoK_ok t k' ht h with ⟨t', k2, h1, h2⟩ | ⟨h1, h2⟩
    · exact .inl ⟨t', k2, by simpa [gotoIn] using h1, h2⟩
    · exact .inr ⟨by simpa [gotoIn] using h1, h2⟩
  | .scp b t, _, ⟨C, k', e, hc, ht⟩, h => by
    subst e hc
    rcases labK_ok C (fun r => A (.code r (.scp (lowC P N C) t))) (gotoK l t A B) h with ⟨R, h1, h2⟩ | ⟨h1, h2⟩
    · exact .inl ⟨.code (lowC P N R) (.scp (lowC P N C) t), .code R :: .inScope C :: k', by simp [gotoIn, h1], ⟨R, _, rfl, rfl, C, k', rfl, rfl, ht⟩, h2⟩
    · rcases gotoK_ok t k' ht h2 with ⟨t', k2, h3, h4⟩ | ⟨h3, h4⟩
      · exact .inl ⟨t', k2, by simpa [gotoIn, h1] using h3, h4⟩
      · exact .inr ⟨by simpa [gotoIn, h1] using h3, h4⟩
  | .erf p t, _, ⟨l, j, k', e, _, ht⟩, h => by
    subst e
    rcases gotoK_ok t k' ht h with ⟨t', k2, h1, h2⟩ | ⟨h1, h2⟩
    · exact .inl ⟨t', k2, by simpa [gotoIn] using h1, h2⟩
    · exact .inr ⟨by simpa [gotoIn] using h1, h2⟩
  | .beg t, _, ⟨k', e, ht⟩, h => by
    subst e
    rcases gotoK_ok t k' ht h with ⟨t', k2, h1, h2⟩ | ⟨h1, h2⟩
    · exact .inl ⟨t', k2, by simpa [gotoIn] using h1, h2⟩
    · exact .inr ⟨by simpa [gotoIn] using h1, h2⟩
section
variable {cl : Cl} {rl : Rl} {ev : ET}
/-- One step of the evaluator. -/
theorem stepT_ok (hmix : P.follows .mixedOrders = true) (hcl : ClOk P cl) (hrl : RlOk P rl) (fcl : FCl cl) (frl : FRl rl) (hev : ETOk P ev) (fev : FEv ev) : ETOk P (stepT false cl rl ev) := by
  intro cx t fr m n ld lv k hlv h N ρ w a b kk cs hm hf ha hcx ht
  have go : ∀ {t' kk' m' w' fr' ld' a' n'} {k' : Prop} {ρ'}, ev cx t' fr' m' n' ld' lv k' → Gon P ρ n m w ρ' n' m' w' → ActR ρ' N fr' ld' a' → TR P N ρ' t' kk' → Steps P (lone (b.atR a kk) cs w) (lone (b.atR a' kk') cs w') →
      ∃ j fr' m' n' ld' k' ρ' w' a', lv j fr' m' n' ld' k' ∧ Gon P ρ n m w ρ' n' m' w' ∧ ActR ρ' N fr' ld' a' ∧ Left P (lone (b.atR a kk) cs w) b cs a' w' j := fun {t' kk' m' w' fr' ld' a' n' k' ρ'} h1 h2 h3 h4 h5 => by
    obtain ⟨j, fr2, m2, n2, ld2, k2, ρ2, w2, a2, g1, g2, g3, g4⟩ := hev cx t' fr' m' n' ld' lv k' hlv h1 N ρ' w' a' b kk' cs h2.rel h2.fre h3 (hcx.mono h2.ext) h4
    exact ⟨j, fr2, m2, n2, ld2, k2, ρ2, w2, a2, g1, h2.trans g2, g3, g4.of h5⟩
  cases t with
  | nil =>
    have : kk = [] := ht
    subst this
    exact ⟨.no, fr, m, n, ld, k, ρ, w, a, h, .refl hm hf, ha, .refl P _⟩
  | blk id t =>
    obtain ⟨k', rfl, ht⟩ := ht
    exact go h (.refl hm hf) ha ht (Steps.one stepR_inBlock)
  | lp bb t =>
    obtain ⟨B, k', rfl, rfl, ht⟩ := ht
    exact go h (.refl hm hf) ha ⟨B, _, rfl, rfl, B, k', rfl, rfl, ht⟩ (Steps.one stepR_inLoop)
  | scp bb t =>
    obtain ⟨B, k', rfl, rfl, ht⟩ := ht
    exact go h (.refl hm hf) ha ht (Steps.one stepR_inScope')
  | erf p t =>
    obtain ⟨l, j, k', rfl, hp, ht⟩ := ht
    have h0 : itErf ev cx p t fr m n ld lv k := h
    obtain ⟨ob, h1, h2⟩ := getK_ok p m _ h0
    obtain ⟨s, pd, f', ps, x, y, rfl, h3⟩ := onLoop_ok h2
    obtain ⟨oi, e1, e2⟩ := hm.at h1 hp
    obtain ⟨L, rfl, e3, e4, e5, e6, e7, e8⟩ := e2
    have h4 : s ≠ .busy ∧ Tr.putK p m (.loop .gone pd f' ps x y) fun m => pendK ev cx t pd fr m n ld lv k := by
      cases s <;> first | exact ⟨by simp, h3⟩ | exact h3.elim
    have h5 := putK_ok p m _ _ h4.2
    have hb : L.state ≠ .busy := by rw [e3]; cases s <;> first | (intro e; cases e; done) | exact absurd rfl h4.1
    have hend := run_endLoop (P := P) e1 hb
    have hev1 := evo_set hm h1 hp (ob' := .loop .gone pd f' ps x y) (real := .loop { L with state := .exhausted }) ⟨_, rfl, rfl, e4, e5, e6, e7, e8⟩
    have hg := hev1.gon (Nat.le_refl _) hf
    have hst : Steps P (lone (b.atR a (.endRangeFunc l :: k')) cs w) (lone (b.atR a (((JC pd).map Item.code).toList ++ k')) cs (w.putObj l (.loop { L with state := .exhausted }))) := by
      rw [← e4]; exact Steps.one (stepR_endRangeFunc (P := P) (b := b) (a := a) (k := k') (cs := cs) hend)
    cases pd with
    | no => exact go h5 hg ha ht hst
    | ret => exact go h5 hg ha ⟨.ret, k', rfl, rfl, ht⟩ hst
    | exit id => exact go h5 hg ha ⟨.exit id, k', rfl, rfl, ht⟩ hst
    | goto l' => exact go h5 hg ha ⟨.goto l', k', rfl, rfl, ht⟩ hst
  | beg t =>
    obtain ⟨k', rfl, ht⟩ := ht
    cases cx with
    | plain => exact h.elim
    | dfr => exact h.elim
    | round p =>
      obtain ⟨_, l, j, hp, hro⟩ := hcx
      have h0 : Tr.getK p m fun ob => SO.onLoop (fun s j f ps x y => isReady s (Tr.putK p m (.loop .busy j f ps x y) fun m => ev (.round p) t fr m n ld lv k)) ob := h
      obtain ⟨ob, h1, h2⟩ := getK_ok p m _ h0
      obtain ⟨s, pd, f', ps, x, y, rfl, h3⟩ := onLoop_ok h2
      obtain ⟨oi, e1, e2⟩ := hm.at h1 hp
      obtain ⟨L, rfl, e3, e4, e5, e6, e7, e8⟩ := e2
      have h4 : s = .ready ∧ Tr.putK p m (.loop .busy pd f' ps x y) fun m => ev (.round p) t fr m n ld lv k := by
        cases s <;> first | exact ⟨rfl, h3⟩ | exact h3.elim
      have h5 := putK_ok p m _ _ h4.2
      have hb := run_beginRound (P := P) e1 (by rw [e3, h4.1]; rfl)
      have hev1 := evo_set hm h1 hp (ob' := .loop .busy pd f' ps x y) (real := .loop { L with state := .busy }) ⟨_, rfl, rfl, e4, e5, e6, e7, e8⟩
      have hg := hev1.gon (Nat.le_refl _) hf
      exact go h5 hg ha ht (Steps.one (stepR_beginRound hro hb))
  | code c t =>
    obtain ⟨C, k', rfl, rfl, ht⟩ := ht
    have h0 : itCode false cl rl ev cx t (lowC P N C) fr m n ld lv k := h
    have ha' := ha
    obtain ⟨hrt, hld⟩ := ha
    cases C with
    | skip => exact go h0 (.refl hm hf) ha' ht (Steps.one stepR_skip)
    | label l => exact go h0 (.refl hm hf) ha' ht (Steps.one stepR_label)
    | seq x y => exact go h0 (.refl hm hf) ha' ⟨x, _, rfl, rfl, y, k', rfl, rfl, ht⟩ (Steps.one stepR_seq)
    | block id x => exact go h0 (.refl hm hf) ha' ⟨x, _, rfl, rfl, k', rfl, ht⟩ (Steps.one stepR_block)
    | loop x => exact go h0 (.refl hm hf) ha' ⟨x, _, rfl, rfl, x, k', rfl, rfl, ht⟩ (Steps.one stepR_loop)
    | scope x => exact go h0 (.refl hm hf) ha' ⟨x, _, rfl, rfl, x, k', rfl, rfl, ht⟩ (Steps.one stepR_scope')
    | ret => exact ⟨.ret, fr, m, n, ld, k, ρ, w, a, h0, .refl hm hf, ha', k', .refl P _⟩
    | refuse _ => exact h0.elim
    | exit id =>
      have h1 : exitK id t (fun t => ev cx t fr m n ld lv k) (lv (.exit id) fr m n ld k) := h0
      rcases exitK_ok t k' ht h1 with ⟨t', k2, e1, e2, e3⟩ | ⟨e1, e2⟩
      · exact go e3 (.refl hm hf) ha' e2 (Steps.one (stepR_exit e1))
      · exact ⟨.exit id, fr, m, n, ld, k, ρ, w, a, e2, .refl hm hf, ha', k', e1, .refl P _⟩
    | goto l =>
      have h1 : gotoK l t (fun t => ev cx t fr m n ld lv k) (lv (.goto l) fr m n ld k) := h0
      rcases gotoK_ok t k' ht h1 with ⟨t', k2, e1, e2, e3⟩ | ⟨e1, e2⟩
      · exact go e3 (.refl hm hf) ha' e2 (Steps.one (stepR_goto e1))
      · exact ⟨.goto l, fr, m, n, ld, k, ρ, w, a, e2, .refl hm hf, ha', k', e1, .refl P _⟩
    | cond X x y =>
      simp only [lowC] at h0
      split at h0
      · rename_i xx hX
        have h1 : evK xx fr fun v => SV.onBool (fun q => bK q (ev cx (.code (lowC P N x) t) fr m n ld lv k) (ev cx (.code (lowC P N y) t) fr m n ld lv k)) v := h0
        obtain ⟨v, h2, h3⟩ := evK_ok hX h1
        obtain ⟨q, rfl, h4⟩ := onBool_ok h2
        have h5 := h3 ρ a.eval hrt.evR
        simp only [VR] at h5
        rcases bK_ok h4 with ⟨rfl, h6⟩ | ⟨rfl, h6⟩
        · exact go h6 (.refl hm hf) ha' ⟨x, k', rfl, rfl, ht⟩ (Steps.one (stepR_cond h5))
        · exact go h6 (.refl hm hf) ha' ⟨y, k', rfl, rfl, ht⟩ (Steps.one (stepR_cond h5))
      · exact h0.elim
    | region id ops d =>
      simp only [lowC] at h0
      split at h0
      · rename_i r hr
        have h1 : regK false cl rl cx r fr m n ld (fun fr m n ld k => ev cx t fr m n ld lv k) k := h0
        obtain ⟨fr1, m1, n1, ld1, k1, ρ1, w1, a1, g1, g2, g3, g4⟩ := reg_ok (kk := k') (b := b) (cs := cs) (id := id) hmix hcl hrl fcl frl hr (fun fr m n ld => fev _ _ _ _ _ _ _ hlv) h1 hm hf ha' hcx
        exact go g1 g2 g3 (ht.mono g2.ext) g4
      · exact h0.elim
    | rangeFunc F ps x y =>
      simp only [lowC] at h0
      split at h0
      · rename_i xx l hX hps
        have h1 : cRf cl rl ev cx t xx l (lowC P N x) (lowC P N y) fr m n ld lv k := h0
        cases cx with
        | dfr => exact h1.elim
        | round p => exact h1.elim
        | plain =>
          have h2 : evK xx fr fun v => Tr.putK n m (.defd .nil) fun m => Pos.succK n fun n1 => Tr.putK n1 m (.loop .ready .no fr l (lowC P N x) (lowC P N y)) fun m => Pos.succK n1 fun n2 => callV v cl (fun _ _ _ _ _ _ => False) (.cons (.yld n1) .nil) m n2 (fun _ m n3 k => ev .plain (.erf n1 t) fr m n3 (.coll n ld) lv k) k := h1
          obtain ⟨v, h3, h4⟩ := evK_ok hX h2
          have e1 := h4 ρ a.eval hrt.evR
          have h5 := succK_ok _ _ (putK_ok _ _ _ _ (succK_ok _ _ (putK_ok _ _ _ _ h3)))
          have hn := hf n (Nat.le_refl _)
          have hg1 := (evo_new (P := P) hm hn (ob := .defd .nil) (k := 0) (real := .deferred (some [])) (Nat.le_refl _) ⟨[], rfl, rfl⟩).gon (by rw [Pos.nat_succ]; omega) hf
          have hn1 := hg1.fre n.succ (Nat.le_refl _)
          have hg2 := (evo_new (P := P) hg1.rel hn1 (ob := .loop .ready .no fr l (lowC P N x) (lowC P N y)) (k := 0) (real := .loop { state := .ready, pending := none, fn := b.fn, tmps := a.tmps, params := ps, assign := x, body := y, defers := w.heap.size }) (Nat.le_refl _)
            ⟨_, rfl, rfl, rfl, (by have := (hrt.mono hg1.ext).mono (upd_ext (x := ((w.heap.push (.deferred (some []))).size, 0)) hn1); rw [hrt.1]; exact this), by rw [hrt.1]; exact hps, by rw [hrt.1], by rw [hrt.1]⟩).gon (by have := Pos.nat_succ n.succ; omega) hg1.fre
          have hg := hg1.trans hg2
          have hen := run_enterLoop_outer (P := P) (w := w) b.fn a.tmps ps x y
          rw [← hcx.1] at hen
          have hy : LV _ (.cons (.yld n.succ) .nil) [.func (.yield (w.heap.size + 1)) #[] #[]] := LV_cons.2 ⟨_, _, (by simp only [VR]; exact ⟨_, _, upd_same, by simp⟩ : VR (upd (upd ρ n (w.heap.size, 0)) n.succ ((w.heap.push (.deferred (some []))).size, 0)) (.yld n.succ) (.func (.yield (w.heap.size + 1)) #[] #[])), LV_nil.2 rfl, rfl⟩
          cases v with
          | func fn g q =>
            obtain ⟨vs, ws, e3, e4, e5⟩ := LV_func e1
            have h5' : appK (.cons (.yld n.succ) .nil) q fun l' => appK g l' fun l' => cl fn l' (Tr.put n.succ (Tr.put n m (.defd .nil)) (.loop .ready .no fr l (lowC P N x) (lowC P N y))) n.succ.succ (fun _ m n3 k => ev .plain (.erf n.succ t) fr m n3 (.coll n ld) lv k) k := h5
            obtain ⟨l1, h6, h7⟩ := appK_ok _ _ _ h5'
            obtain ⟨l2, h8, h9⟩ := appK_ok _ _ _ h6
            have e6 := h9 _ _ _ (LV.mono hg.ext _ _ e3) (h7 _ _ _ hy (LV.mono hg.ext _ _ e4))
            obtain ⟨hent, hcall⟩ := hcl fn l2 _ _ (fun _ m n3 k => ev .plain (.erf n.succ t) fr m n3 (.coll n ld) lv k) k (fun v m n => fev _ _ _ _ _ _ _ hlv) h8 _ _ _ hg.rel hg.fre e6
            obtain ⟨e, w3, frx, hR, hsteps, hfn, hleave⟩ := hcall (b.atR { a with defers := [{ target := .collected w.heap.size, args := #[] }] ++ a.defers } (.inRangeFunc (w.heap.size + 1) :: k') :: cs)
            obtain ⟨v', m3, n3, k3, ρ3, x3, g1, rfl, g2, g3⟩ := hR
            have hres : (resolve a.eval (rangeCall F (w.heap.size + 1)) 0).run P ((w.alloc (.deferred (some []))).alloc (.loop { state := .ready, pending := none, fn := b.fn, tmps := a.tmps, params := ps, assign := x, body := y, defers := w.heap.size })) =
                .ok { target := .fn (.func fn) ws.toArray, args := (vs ++ [Value.func (.yield (w.heap.size + 1)) #[] #[]]).toArray } ((w.alloc (.deferred (some []))).alloc (.loop { state := .ready, pending := none, fn := b.fn, tmps := a.tmps, params := ps, assign := x, body := y, defers := w.heap.size })) := by
              simp only [resolve, e5, Deferred.ofValue, Sem.run_bind, Sem.run_pure, Result.andThen_ok]
              congr 2
              apply Array.ext'
              simp [Act.eval]
            have hinv : (invoke (.fn (.func fn) ws.toArray) (vs ++ [Value.func (.yield (w.heap.size + 1)) #[] #[]]).toArray).run P ((w.alloc (.deferred (some []))).alloc (.loop { state := .ready, pending := none, fn := b.fn, tmps := a.tmps, params := ps, assign := x, body := y, defers := w.heap.size })) =
                .ok (.enter fn (vs ++ ([Value.func (.yield (w.heap.size + 1)) #[] #[]] ++ ws)).toArray) ((w.alloc (.deferred (some []))).alloc (.loop { state := .ready, pending := none, fn := b.fn, tmps := a.tmps, params := ps, assign := x, body := y, defers := w.heap.size })) := by
              simp only [invoke]
              rw [run_enter hent]
              congr 2
              apply Array.ext'
              simp
            have henter := stepR_rangeFunc (P := P) (b := b) (a := a) (k := k') (cs := cs) (w := w) hen hres hinv
            refine go g1 (hg.trans g2) (a' := { a with defers := [{ target := .collected w.heap.size, args := #[] }] ++ a.defers }) ⟨(hrt.mono hg.ext).mono g2.ext, ?_⟩ (kk' := .endRangeFunc (w.heap.size + 1) :: k') ?_ (Steps.trans (Steps.one henter) (Steps.trans hsteps (Steps.one ?_)))
            · refine ⟨w.heap.size, 0, a.defers, g2.ext _ _ (hg2.ext _ _ upd_same), (hld.mono hg.ext).mono g2.ext, rfl⟩
            · exact ⟨_, 0, k', rfl, g2.ext _ _ (by rw [upd_same]; simp), (ht.mono hg.ext).mono g2.ext⟩
            · rw [← finish_atR_inRangeFunc (w.heap.size + 1) x3]; exact step_leave_returned hleave
          | _ => exact h5.elim
      · exact h0.elim
end
/-- The evaluator is sound. -/
theorem callD_ok {low : Program → Nat → Option LF} {dets : List Nat} {ev : Bool → ET} (hlow : low = lowF) (he : ∀ b, FEv (ev b)) (hev : ETOk P (ev false)) : ClOk P (callD P low dets ev false) := by
  subst hlow
  intro fn l m n c k hc h
  have h1 := callF_ok hev (he false)
  rcases memK_ok dets fn _ _ h with ⟨_, h2⟩ | ⟨_, h2⟩
  · exact det_ok (f_callF (he true)) (f_callF (he false)) h1 fn l m n c k hc h2
  · exact h1 fn l m n c k hc h2
theorem evalT_ok (hmix : P.follows .mixedOrders = true) {dets : List Nat} : ∀ (fuel : Nat), ETOk P (evalT P lowF dets fuel false)
  | 0 => fun _ _ _ _ _ _ _ _ _ h => h.elim
  | fuel + 1 => stepT_ok hmix (callD_ok rfl (f_evalT fuel) (evalT_ok hmix fuel)) (roundF_ok (evalT_ok hmix fuel)) (f_callD (f_evalT fuel) false) (f_roundF (f_evalT fuel false)) (evalT_ok hmix fuel) (f_evalT fuel false)
theorem runC_ok (hmix : P.follows .mixedOrders = true) (dets : List Nat) (fuel : Nat) : ClOk P (runC P lowF dets fuel) := callD_ok rfl (f_evalT fuel) (evalT_ok hmix fuel)
end
end Go.Ev
end
section
set_option linter.all false
set_option linter.unusedVariables false
set_option linter.unusedSimpArgs false
namespace Go.Ev
open Go

/-- What of m stands under the names of r. -/
def restrK (r : Mem) : Mem → (Mem → Prop) → Prop := @Tr.rec SO (fun _ => Mem → (Mem → Prop) → Prop) (fun _ c => c .leaf)
  (fun _ _ ihl ihr m c => @Tr.rec SO (fun _ => Prop) False (fun l r _ _ => ihl l fun l => ihr r fun r => c (.nodeN l r)) (fun l _ r _ _ => ihl l fun l => ihr r fun r => c (.nodeN l r)) m)
  (fun _ _ _ ihl ihr m c => @Tr.rec SO (fun _ => Prop) False (fun _ _ _ _ => False) (fun l v r _ _ => ihl l fun l => ihr r fun r => c (.nodeS l v r)) m) r
theorem restrK_ok : ∀ (r m : Mem) (c : Mem → Prop), restrK r m c → ∃ m', c m' ∧ Sub m' m
  | .leaf, m, c, h => ⟨.leaf, h, sub_leaf m⟩
  | .nodeN l r, .leaf, c, h => h.elim
  | .nodeN l r, .nodeN l' r', c, h => by
    obtain ⟨a, h1, h2⟩ := restrK_ok l l' (fun l => restrK r r' fun r => c (.nodeN l r)) h
    obtain ⟨b, h3, h4⟩ := restrK_ok r r' (fun r => c (.nodeN a r)) h1
    exact ⟨_, h3, fun p => by cases p with | e => exact fun o h => h | l p => exact h2 p | r p => exact h4 p⟩
  | .nodeN l r, .nodeS l' v r', c, h => by
    obtain ⟨a, h1, h2⟩ := restrK_ok l l' (fun l => restrK r r' fun r => c (.nodeN l r)) h
    obtain ⟨b, h3, h4⟩ := restrK_ok r r' (fun r => c (.nodeN a r)) h1
    exact ⟨_, h3, fun p => by cases p with | e => exact fun o h => by cases h | l p => exact h2 p | r p => exact h4 p⟩
  | .nodeS l _ r, .leaf, c, h => h.elim
  | .nodeS l _ r, .nodeN l' r', c, h => h.elim
  | .nodeS l _ r, .nodeS l' v r', c, h => by
    obtain ⟨a, h1, h2⟩ := restrK_ok l l' (fun l => restrK r r' fun r => c (.nodeS l v r)) h
    obtain ⟨b, h3, h4⟩ := restrK_ok r r' (fun r => c (.nodeS a v r)) h1
    exact ⟨_, h3, fun p => by cases p with | e => exact fun o h => h | l p => exact h2 p | r p => exact h4 p⟩

/-- A call: of what, from which names and memory, and to which it leads. -/
structure Kn where
  fn : Nat
  l : SV
  r : Mem
  n : Pos
  v : SV
  m : Mem
  n' : Pos
/-- A call ends as is said, as far as its arguments and its result reach. -/
def Kn.endK (e : Kn) : Co := fun v m n k => reachV (.cons v e.l) (visK m farN) .leaf fun m' => (v = e.v ∧ m' = e.m) ∧ n = e.n' ∧ k
/-- A call is known. -/
def knC (e : Kn) (cl : Cl) : Cl := fun fn l m n c k => bK (Nat.beq e.fn fn) (posN e.n fun x => posN n fun y => bK (Nat.beq x y) (restrK e.r m fun m' => (l = e.l ∧ m' = e.r) ∧ minusK e.r m fun m1 => plusK e.m m1 fun m2 => c e.v m2 e.n' k) (cl fn l m n c k)) (cl fn l m n c k)
theorem f_endKn (e : Kn) : ∀ v m n, e.endK v m n False = False := fun v m n => eq_false fun h => by
  obtain ⟨_, _, _, _, h⟩ := reachV_ok (visK_ok farN) _ _ _ (sub_leaf m) h
  exact h
theorem f_knC {e : Kn} {cl : Cl} (h1 : FCl cl) : FCl (knC e cl) := by
  intro fn l m n c hc
  refine eq_false fun h => ?_
  rcases bK_ok h with ⟨_, h⟩ | ⟨_, h⟩
  · have h := posN_ok _ _ (posN_ok _ _ h)
    rcases bK_ok h with ⟨_, h⟩ | ⟨_, h⟩
    · obtain ⟨_, ⟨_, h⟩, _⟩ := restrK_ok _ _ _ h
      obtain ⟨_, h, _⟩ := minusK_ok _ _ _ h
      obtain ⟨_, h, _⟩ := plusK_ok _ _ _ h
      rw [hc] at h; exact h
    · rw [h1 _ _ _ _ _ hc] at h; exact h
  · rw [h1 _ _ _ _ _ hc] at h; exact h
section
variable {P : Program}
theorem gon_part {ρ ρ1 : Env} {n n' : Pos} {r m r1 r0' m1 m' : Mem} {w w' : World} (hs : Sub r m) (hm : Rel P ρ n m w) (hf : Fre ρ n) (hg : Gon P ρ n r w ρ1 n' r1 w') (h1 : Sub r0' r1)
    (g2 : ∀ p, Tr.get p m1 = if Tr.get p r = none then Tr.get p m else none) (g4 : ∀ p, Tr.get p m' = (Tr.get p r0').or (Tr.get p m1)) : Gon P ρ n m w ρ1 n' m' w' := by
  have hbel := hf.below hm
  have hlive : ∀ p o, Tr.get p m' = some o → Tr.get p r0' = some o ∨ (Tr.get p r0' = none ∧ Tr.get p r = none ∧ Tr.get p m = some o) := fun p o hp => by
    rw [g4, g2] at hp
    cases h5 : Tr.get p r0' with
    | some o' => rw [h5] at hp; exact .inl (by simpa using hp)
    | none =>
      rw [h5] at hp
      by_cases h6 : Tr.get p r = none
      · rw [if_pos h6] at hp; exact .inr ⟨rfl, h6, by simpa using hp⟩
      · rw [if_neg h6] at hp; simp at hp
  have hout : ∀ p o a k, Tr.get p r = none → Tr.get p m = some o → ρ p = some (a, k) → a < w.heap.size ∧ w'.heap[a]? = w.heap[a]? := fun p o a k h5 h6 h7 => by
    have hlt := hm.lt (by rw [h6]; simp) h7
    refine ⟨hlt, hg.evo.frame a hlt fun q j hq hj => ?_⟩
    have h8 := hm.inj p q a k j (by rw [h6]; simp) (hs.live hq) h7 hj
    subst h8; exact hq h5
  have hrel : Rel P ρ1 n' m' w' := by
    refine ⟨fun p q a j j' hp hq h5 h6 => ?_, fun p o hp => ?_⟩
    · obtain ⟨o, ho⟩ := Option.ne_none_iff_exists'.1 hp
      obtain ⟨o', ho'⟩ := Option.ne_none_iff_exists'.1 hq
      have key : ∀ (p q : Pos) o o' (j j' : Nat), Tr.get p r0' = some o → Tr.get q r0' = none → Tr.get q r = none → Tr.get q m = some o' → ρ1 p = some (a, j) → ρ1 q = some (a, j') → False := fun p q o o' j j' e1 e2 e3 e4 e5 e6 => by
        have e8 := h1 p o e1
        have hq' := hbel q (by rw [e4]; simp)
        rw [hg.evo.out q (.inl hq')] at e6
        obtain ⟨hlt, _⟩ := hout q o' a j' e3 e4 e6
        rcases hg.evo.news p a j (by rw [e8]; simp) e5 with h7 | ⟨q2, j2, h7, h8⟩
        · omega
        · have h9 := hm.inj q q2 a j' j2 (by rw [e4]; simp) (hs.live h7) e6 h8
          subst h9; exact h7 e3
      rcases hlive p o ho with e1 | ⟨e1, e2, e3⟩
      · rcases hlive q o' ho' with e4 | ⟨e4, e5, e6⟩
        · exact hg.rel.inj p q a j j' (by rw [h1 p o e1]; simp) (by rw [h1 q o' e4]; simp) h5 h6
        · exact (key p q o o' j j' e1 e4 e5 e6 h5 h6).elim
      · rcases hlive q o' ho' with e4 | ⟨e4, e5, e6⟩
        · exact (key q p o' o j' j e4 e1 e2 e3 h6 h5).elim
        · rw [hg.evo.out p (.inl (hbel p (by rw [e3]; simp)))] at h5
          rw [hg.evo.out q (.inl (hbel q (by rw [e6]; simp)))] at h6
          exact hm.inj p q a j j' (by rw [e3]; simp) (by rw [e6]; simp) h5 h6
    · rcases hlive p o hp with e1 | ⟨e1, e2, e3⟩
      · exact hg.rel.mem p o (h1 p o e1)
      · obtain ⟨a, j, ob, e7, e8, e9⟩ := hm.mem p o e3
        refine ⟨a, j, ob, hg.ext _ _ e7, ?_, e9.mono P hg.ext⟩
        rw [(hout p o a j e2 e3 e7).2]; exact e8
  refine ⟨hg.le, hg.fre, hg.evo.ext, hg.evo.out, hrel, hg.evo.os, hg.evo.tape, hg.evo.output, hg.evo.drawn, hg.evo.size, fun a ha hn => ?_, fun p a j hp hj => ?_⟩
  · exact hg.evo.frame a ha fun p j hp hj => hn p j (hs.live hp) hj
  · obtain ⟨o, ho⟩ := Option.ne_none_iff_exists'.1 hp
    rcases hlive p o ho with e1 | ⟨e1, e2, e3⟩
    · rcases hg.evo.news p a j (by rw [h1 p o e1]; simp) hj with h7 | ⟨q2, j2, h7, h8⟩
      · exact .inl h7
      · exact .inr ⟨q2, j2, hs.live h7, h8⟩
    · rw [hg.evo.out p (.inl (hbel p (by rw [e3]; simp)))] at hj
      exact .inr ⟨p, j, by rw [e3]; simp, hj⟩
theorem knC_ok {e : Kn} {cl0 cl : Cl} (h0 : ClOk P cl0) (hp : cl0 e.fn e.l e.r e.n e.endK True) (hcl : ClOk P cl) : ClOk P (knC e cl) := by
  intro fn l m n c k hc h ρ w vs hm hf hl
  rcases bK_ok h with ⟨h1, h⟩ | ⟨_, h⟩
  · have h := posN_ok _ _ (posN_ok _ _ h)
    rcases bK_ok h with ⟨h2, h⟩ | ⟨_, h⟩
    · obtain ⟨r, ⟨⟨h12, h13⟩, h9⟩, hs⟩ := restrK_ok _ _ _ h
      subst h12 h13
      obtain ⟨m1, h10, g2⟩ := minusK_ok _ _ _ h9
      obtain ⟨m', h11, g4⟩ := plusK_ok _ _ _ h10
      have h1 := Nat.eq_of_beq_eq_true h1; subst h1
      have h2 := Pos.nat_inj (Nat.eq_of_beq_eq_true h2); subst h2
      have hcall := h0 _ _ _ _ _ _ (f_endKn e) hp ρ w vs (hm.sub hs) hf hl
      refine ⟨hcall.1, Calls.imp hcall.2 ?_⟩
      rintro e0 w' ⟨v, r1, n1, k', ρ1, x, hend, rfl, hg, hx⟩
      obtain ⟨r2, hs2, ⟨rfl, rfl⟩, rfl, _⟩ := reachV_ok (visK_ok farN) _ _ _ (sub_leaf r1) hend
      exact ⟨_, m', _, k, ρ1, x, h11, rfl, gon_part hs hm hf hg hs2 g2 g4, hx⟩
    · exact hcl _ _ _ _ _ _ hc h ρ w vs hm hf hl
  · exact hcl _ _ _ _ _ _ hc h ρ w vs hm hf hl

/-- A call is known for good. -/
def KnOk (P : Program) (e : Kn) : Prop := ∃ cl, ClOk P cl ∧ cl e.fn e.l e.r e.n e.endK True
theorem KnOk.calls {e : Kn} (h : KnOk P e) {ρ : Env} {w : World} {vs : List Value} (hm : Rel P ρ e.n e.r w) (hf : Fre ρ e.n) (hl : LV ρ e.l vs) :
    Ent P e.fn ∧ Calls P e.fn vs.toArray w fun e0 w' => ∃ ρ' x, e0 = .returned x ∧ Gon P ρ e.n e.r w ρ' e.n' e.m w' ∧ VR ρ' e.v x := by
  obtain ⟨cl, h0, hp⟩ := h
  have hcall := h0 _ _ _ _ _ _ (f_endKn e) hp ρ w vs hm hf hl
  refine ⟨hcall.1, Calls.imp hcall.2 ?_⟩
  rintro e0 w' ⟨v, r1, n1, k', ρ1, x, hend, rfl, hg, hx⟩
  obtain ⟨r2, hs2, ⟨rfl, rfl⟩, rfl, _⟩ := reachV_ok (visK_ok farN) _ _ _ (sub_leaf r1) hend
  refine ⟨ρ1, x, rfl, gon_part (m1 := .leaf) (fun _ _ h => h) hm hf hg hs2 (fun p => ?_) (fun p => ?_), hx⟩
  · rw [get_leaf]; split
    · rename_i h; rw [h]
    · rfl
  · rw [get_leaf]; cases Tr.get p e.m <;> rfl
/-- A table of known calls. -/
structure TabOk (P : Program) (t : Cl → Cl) : Prop where
  f : ∀ cl, FCl cl → FCl (t cl)
  ok : ∀ cl, FCl cl → ClOk P cl → ClOk P (t cl)
theorem TabOk.id : TabOk P fun cl => cl := ⟨fun _ h => h, fun _ _ h => h⟩
theorem TabOk.kn {t : Cl → Cl} {e : Kn} (he : KnOk P e) (ht : TabOk P t) : TabOk P fun cl => knC e (t cl) :=
  ⟨fun cl h => f_knC (ht.f cl h), fun cl hf h => knC_ok he.choose_spec.1 he.choose_spec.2 (ht.ok cl hf h)⟩
end
/-- The evaluator with a table of known calls. -/
def evalK (P : Program) (t : Cl → Cl) (dets : List Nat) (fuel : Nat) : Bool → ET := @Nat.rec (fun _ => Bool → ET) (fun _ _ _ _ _ _ _ _ _ => False) (fun _ ih fst => stepT fst (t (callD P lowF dets ih fst)) (roundF (ih fst)) (ih fst)) fuel
def runK (P : Program) (t : Cl → Cl) (dets : List Nat) (fuel : Nat) : Cl := t (callD P lowF dets (evalK P t dets fuel) false)
/-- The same, where the call itself is not looked up. -/
def runN (P : Program) (t : Cl → Cl) (dets : List Nat) (fuel : Nat) : Cl := callD P lowF dets (evalK P t dets fuel) false
section
variable {P : Program} {t : Cl → Cl}
theorem f_evalK (ht : ∀ cl, FCl cl → FCl (t cl)) {dets : List Nat} : ∀ (fuel : Nat) (b : Bool), FEv (evalK P t dets fuel b)
  | 0, _ => fun _ _ _ _ _ _ _ _ => rfl
  | fuel + 1, b => f_stepT (ht _ (f_callD (f_evalK ht fuel) b)) (f_roundF (f_evalK ht fuel b)) (f_evalK ht fuel b)
theorem evalK_ok (hmix : P.follows .mixedOrders = true) (ht : TabOk P t) {dets : List Nat} : ∀ (fuel : Nat), ETOk P (evalK P t dets fuel false)
  | 0 => fun _ _ _ _ _ _ _ _ _ h => h.elim
  | fuel + 1 => stepT_ok hmix (ht.ok _ (f_callD (f_evalK ht.f fuel) false) (callD_ok rfl (f_evalK ht.f fuel) (evalK_ok hmix ht fuel))) (roundF_ok (evalK_ok hmix ht fuel)) (ht.f _ (f_callD (f_evalK ht.f fuel) false)) (f_roundF (f_evalK ht.f fuel false)) (evalK_ok hmix ht fuel) (f_evalK ht.f fuel false)
theorem runN_ok (hmix : P.follows .mixedOrders = true) (ht : TabOk P t) (dets : List Nat) (fuel : Nat) : ClOk P (runN P t dets fuel) := callD_ok rfl (f_evalK ht.f fuel) (evalK_ok hmix ht fuel)
theorem f_runN (ht : TabOk P t) (dets : List Nat) (fuel : Nat) : FCl (runN P t dets fuel) := f_callD (f_evalK ht.f fuel) false
end
end Go.Ev
end
