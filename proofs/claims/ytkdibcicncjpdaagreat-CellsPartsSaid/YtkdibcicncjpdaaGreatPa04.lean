/- SyS3 Rep Eq Of Only SyK Nam Tops Clo -/
import Derived.Test.YtkdibcicncjpdaaGreatPa03
import Derived.Test.YtkdibcicncjpdaaGreatPa02
set_option linter.unusedSimpArgs false
set_option linter.unusedVariables false
namespace Go.Proofs.YtkdibcicncjpdaaGreat
open _root_.Go.Proofs.Tryz _root_.Go.Proofs.YtkdibcicncjpdaaGreat.Tryz
open Go Go.Sy Go.Pl Go.Proofs
set_option maxRecDepth 100000
set_option maxHeartbeats 1000000 in
theorem stableS (E : World) (g : PH) (s : Own) (v cv : Value) (key : Side → Int) (hc : CmpOk E cv encSide key g) (l : List Side) (hn : l.length < 1152921504606846976) (n : Int) (hnl : n = l.length) :
  Ctr Tryz.prog E 135 #[v, vi n, cv] g (rowA encSide 55 v l :: s) (fun _ g' s' => g = g' ∧ s' = rowA encSide 55 v (sortBy key l) :: s) := by
 refine Ctr.of (args := [v, vi n, cv]) func135 rfl ntmps135 (Nat.le_of_ble_eq_true rfl) ?_
 refine SC.seq (SC.region (SL.A rfl (SL.nil (ST.thenN (SC.seq (SC.region (SL.M rfl (SL.A rfl (SL.A rfl (SL.nil (ST.thenN ?_)))))))))))
 refine SC.cut (ι := List Side × List Side) (fun i => [(0, v), (1, vi n), (2, cv), (6, vi 20), (7, vi i.1.length)]) (fun _ => g) (fun i => rowA encSide 55 v (i.1 ++ i.2) :: s)
  (fun i => FC key 20 i.1 ∧ Stab key l (i.1 ++ i.2) ∧ i.2.length < 20) ?_ ?_
 ·refine SC.block ?_
  refine SC.loop (ι := List Side × List Side) (fun i => [(0, v), (1, vi n), (2, cv), (6, vi 20), (7, vi i.1.length), (8, vi (i.1.length + 20))]) (fun _ => g) (fun i => rowA encSide 55 v (i.1 ++ i.2) :: s)
   (fun i => FC key 20 i.1 ∧ Stab key l (i.1 ++ i.2)) (fun i => i.2.length) ([], l)
   ⟨rfl, rfl, rfl, rfl, rfl, rfl, trivial⟩ rfl rfl ⟨FC.nil, Stab.refl _⟩ ?_
  rintro ⟨d, r⟩ ⟨hd, hst⟩
  dsimp only at hd hst ⊢
  have hlen : d.length + r.length = l.length := by have := hst.1; simpa using this
  refine SC.seq (SC.seq (SC.region (SL.M rfl (SL.M rfl (SL.U (SU.leq rfl rfl) (SL.nil (ST.thenN ?_)))))))
  refine SC.ifP rfl (fun hle => ?_) (fun hle => ?_)
  ·obtain ⟨c, r', hr, hcl⟩ : ∃ c r', r = c ++ r' ∧ c.length = 20 := ⟨r.take 20, r.drop 20, by simp, lN⟩
   have hrl : r.length = 20 + r'.length := by rw [hr]; simp [hcl]
   have e1 : d ++ r = d ++ c ++ r' := by rw [hr]; simp
   rw [e1] at hst ⊢
   refine SC.skip (ST.thenN (SC.block (SC.seq (SC.region (SL.M rfl (SL.M rfl (SL.M rfl (SL.M rfl (SL.W (SO.call call147 rfl (insertionS E g s v cv key hc d c r' lN _ _ lN lN)) ?_)))))))))
   rintro _ _ _ ⟨rfl, c', hc1, hc2, rfl⟩
   refine SL.nil (ST.thenN (SC.seq (SC.region (SL.M rfl (SL.A rfl (SL.nil (ST.thenN (SC.region (SL.M rfl (SL.M rfl (SL.U (SU.add rfl rfl oM) (SL.A rfl (SL.nil (ST.blockN ?_))))))))))))))
   have hc'l : c'.length = 20 := by have := hc1.1; omega
   exact ST.again (d ++ c', r') ⟨rfl, rfl, rfl, rfl, vi_eq lN, vi_eq lN, trivial⟩ rfl rfl ⟨hd.snoc hc'l hc2, hst.trans (Stab.append (Stab.append (Stab.refl _) hc1) (Stab.refl _))⟩ lN
  ·refine SC.exit (ST.thenX (ST.thenX (ST.blockX ?_)))
   exact ST.mid (d, r) ⟨rfl, rfl, rfl, rfl, rfl, trivial⟩ rfl rfl ⟨hd, hst, lN⟩
 rintro ⟨d, r⟩ ⟨hd, hst, hr20⟩
 dsimp only at hd hst hr20 ⊢
 have hlen : d.length + r.length = l.length := by have := hst.1; simpa using this
 have e1 : d ++ r = d ++ r ++ [] := by simp
 rw [e1]
 refine SC.seq (SC.region (SL.M rfl (SL.M rfl (SL.M rfl (SL.M rfl (SL.W (SO.call call147 rfl (insertionS E g s v cv key hc d r [] lN _ _ lN lN)) ?_))))))
 rintro _ _ _ ⟨rfl, r', hr1, hr2, rfl⟩
 refine SL.nil (ST.thenN (SC.block ?_))
 refine SC.loop (ι := Nat × List Side × List Side) (fun i => [(0, v), (1, vi n), (2, cv), (6, vi i.1)]) (fun _ => g) (fun i => rowA encSide 55 v (i.2.1 ++ i.2.2) :: s)
  (fun i => FC key i.1 i.2.1 ∧ Stab key l (i.2.1 ++ i.2.2) ∧ i.2.2.length < i.1 ∧ Srt key i.2.2) (fun i => l.length - i.1) (20, d, r')
  ⟨rfl, rfl, rfl, rfl, trivial⟩ rfl (by simp) ⟨hd, hst.trans (Stab.append (Stab.refl _) hr1), by have := hr1.1; (first | with_reducible rfl | ((try dsimp only); (try simp only [List.length_append, List.length_cons, List.length_nil, List.length_singleton, List.length_take, List.length_drop]) <;> omega)), hr2⟩ ?_
 clear hr1 hr2 r' e1 hlen hr20 hst hd r d
 rintro ⟨B, d, r⟩ ⟨hd, hst, hrB, hsr⟩
 dsimp only at hd hst hrB hsr ⊢
 have hlen : d.length + r.length = l.length := by have := hst.1; simpa using this
 refine SC.seq (SC.seq (SC.region (SL.M rfl (SL.M rfl (SL.U (SU.lss rfl rfl) (SL.nil (ST.thenN ?_)))))))
 refine SC.ifP rfl (fun hlt => ?_) (fun hlt => ?_)
 ·refine SC.skip (ST.thenN (SC.block (SC.seq (SC.region (SL.M rfl (SL.U (SU.mul rfl rfl oM) (SL.A rfl (SL.A rfl (SL.nil (ST.thenN ?_))))))))))
  refine SC.cut (ι := List Side × List Side) (fun i => [(0, v), (1, vi n), (2, cv), (6, vi B), (7, vi i.1.length)]) (fun _ => g) (fun i => rowA encSide 55 v (i.1 ++ i.2 ++ r) :: s)
   (fun i => FC key (2 * B) i.1 ∧ FC key B i.2 ∧ Stab key l (i.1 ++ i.2 ++ r) ∧ i.2.length + r.length < 2 * B) ?_ ?_
  ·refine SC.block ?_
   refine SC.loop (ι := List Side × List Side) (fun i => [(0, v), (1, vi n), (2, cv), (6, vi B), (7, vi i.1.length), (8, vi (i.1.length + 2 * B))]) (fun _ => g) (fun i => rowA encSide 55 v (i.1 ++ i.2 ++ r) :: s)
    (fun i => FC key (2 * B) i.1 ∧ FC key B i.2 ∧ Stab key l (i.1 ++ i.2 ++ r)) (fun i => i.2.length) ([], d)
    ⟨rfl, rfl, rfl, rfl, rfl, vi_eq lN, trivial⟩ rfl (by simp) ⟨FC.nil, hd, by simpa using hst⟩ ?_
   rintro ⟨e, d1⟩ ⟨he, hd1, hst1⟩
   dsimp only at he hd1 hst1 ⊢
   have hlen1 : e.length + d1.length + r.length = l.length := by have := hst1.1; simp at this; omega
   refine SC.seq (SC.seq (SC.region (SL.M rfl (SL.M rfl (SL.U (SU.leq rfl rfl) (SL.nil (ST.thenN ?_)))))))
   refine SC.ifP rfl (fun hle => ?_) (fun hle => ?_)
   ·obtain ⟨c1, d2, hde, hc1l, hc1s, hd2⟩ := hd1.front oM
    have hd1l : d1.length = B + d2.length := by rw [hde]; simp [hc1l]
    obtain ⟨c2, d3, hde2, hc2l, hc2s, hd3⟩ := hd2.front oM
    have hd2l : d2.length = B + d3.length := by rw [hde2]; simp [hc2l]
    have e1 : e ++ d1 ++ r = e ++ c1 ++ c2 ++ (d3 ++ r) := by rw [hde, hde2]; simp
    rw [e1] at hst1 ⊢
    refine SC.skip (ST.thenN (SC.block (SC.seq (SC.region (SL.M rfl (SL.M rfl (SL.M rfl (SL.M rfl (SL.U (SU.add rfl rfl oM) (SL.M rfl (SL.M rfl (SL.W (SO.call call148 rfl (symMergeS E g v cv key hc _ s e c1 c2 (d3 ++ r) rfl hc1s hc2s oM oM lN _ _ _ lN lN lN)) ?_))))))))))))
    rintro _ _ _ ⟨rfl, W, hW1, hW2, rfl⟩
    refine SL.nil (ST.thenN (SC.seq (SC.region (SL.M rfl (SL.A rfl (SL.nil (ST.thenN (SC.region (SL.M rfl (SL.M rfl (SL.U (SU.mul rfl rfl oM) (SL.U (SU.add rfl rfl oM) (SL.A rfl (SL.nil (ST.blockN ?_)))))))))))))))
    have hWl : W.length = 2 * B := by have := hW1.1; simp at this; omega
    exact ST.again (e ++ W, d3) ⟨rfl, rfl, rfl, rfl, vi_eq lN, vi_eq lN, trivial⟩ rfl (by simp) ⟨he.snoc hWl hW2, hd3, hst1.trans (by
     have := Stab.append (Stab.append (Stab.refl (key := key) e) hW1) (Stab.refl (key := key) (d3 ++ r))
     simpa using this)⟩ lN
   ·refine SC.exit (ST.thenX (ST.thenX (ST.blockX ?_)))
    exact ST.mid (e, d1) ⟨rfl, rfl, rfl, rfl, rfl, trivial⟩ rfl rfl ⟨he, hd1, hst1, lN⟩
  rintro ⟨e, d1⟩ ⟨he, hd1, hst1, hlt2⟩
  dsimp only at he hd1 hst1 hlt2 ⊢
  have hlen1 : e.length + d1.length + r.length = l.length := by have := hst1.1; simp at this; omega
  refine SC.cut (ι := List Side) (fun _ => [(0, v), (1, vi n), (2, cv), (6, vi B)]) (fun _ => g) (fun r' => rowA encSide 55 v (e ++ r') :: s) (fun r' => Stab key (d1 ++ r) r' ∧ Srt key r') ?_ ?_
  ·refine SC.seq (SC.region (SL.M rfl (SL.M rfl (SL.U (SU.add rfl rfl oM) (SL.A rfl (SL.nil (ST.thenN (SC.seq (SC.region (SL.M rfl (SL.M rfl (SL.U (SU.lss rfl rfl) (SL.nil (ST.thenN ?_))))))))))))))
   refine SC.ifP rfl (fun hmn => ?_) (fun hmn => ?_)
   ·obtain ⟨c, d2, hde, hcl, hcs, hd2⟩ := hd1.front oM
    have hd1l : d1.length = B + d2.length := by rw [hde]; simp [hcl]
    have hd2e : d2 = [] := by
     cases hd2 with
     | nil => rfl
     | cons h3 h4 h5 => simp [h3] at hd1l; omega
    have hd2z : d2.length = 0 := by rw [hd2e]; rfl
    have hdc : d1 = c := by rw [hde, hd2e]; simp
    have e1 : e ++ d1 ++ r = e ++ c ++ r ++ [] := by rw [hdc]; simp
    rw [e1]
    refine SC.region (SL.M rfl (SL.M rfl (SL.M rfl (SL.M rfl (SL.M rfl (SL.W (SO.call call148 rfl (symMergeS E g v cv key hc _ s e c r [] rfl hcs hsr oM oM lN _ _ _ lN lN lN)) ?_))))))
    rintro _ _ _ ⟨rfl, W, hW1, hW2, rfl⟩
    refine SL.nil ?_
    exact ST.mid W ⟨rfl, rfl, rfl, rfl, trivial⟩ rfl (by simp) ⟨by rw [hdc]; exact hW1, hW2⟩
   ·refine SC.skip ?_
    exact ST.mid (d1 ++ r) ⟨rfl, rfl, rfl, rfl, trivial⟩ rfl (by simp) ⟨Stab.refl _, by
     rcases Nat.eq_zero_or_pos d1.length with h0 | h0
     ·rw [List.eq_nil_of_length_eq_zero h0]; simpa using hsr
     ·obtain ⟨c, d2, hde, hcl, hcs, hd2⟩ := hd1.front h0
      have hd1l : d1.length = B + d2.length := by rw [hde]; simp [hcl]
      have h1 : d2 = [] := List.eq_nil_of_length_eq_zero oM
      have h2 : r = [] := List.eq_nil_of_length_eq_zero oM
      rw [hde, h1, h2]; simpa using hcs⟩
  rintro r' ⟨hr1, hr2⟩
  try dsimp only
  have hr'l : r'.length = d1.length + r.length := by have := hr1.1; simpa using this
  refine SC.region (SL.M rfl (SL.U (SU.mul rfl rfl oM) (SL.A rfl (SL.nil (ST.blockN ?_)))))
  exact ST.again (2 * B, e, r') ⟨rfl, rfl, rfl, vi_eq lN, trivial⟩ rfl rfl ⟨he, hst1.trans (by
   have := Stab.append (Stab.refl (key := key) e) hr1
   simpa using this), lN, hr2⟩ lN
 ·refine SC.exit (ST.thenX (ST.thenX (ST.blockX ?_)))
  have hfin : Srt key (d ++ r) := by
   rcases Nat.eq_zero_or_pos d.length with h0 | h0
   ·rw [List.eq_nil_of_length_eq_zero h0]; simpa using hsr
   ·obtain ⟨c, d2, hde, hcl, hcs, hd2⟩ := hd.front h0
    have hd1l : d.length = B + d2.length := by rw [hde]; simp [hcl]
    have h1 : d2 = [] := List.eq_nil_of_length_eq_zero oM
    have h2 : r = [] := List.eq_nil_of_length_eq_zero oM
    rw [hde, h1, h2]; simpa using hcs
  exact ST.ret0 (.inr rfl) results135 ⟨rfl, by rw [eq_sortBy hfin hst]⟩
theorem sortStableS (E : World) (g : PH) (s : Own) (v cv : Value) (key : Side → Int) (hc : CmpOk E cv encSide key g) (l : List Side) (hn : l.length < 1152921504606846976) :
  Ctr Tryz.prog E 108 #[v, cv] g (rowA encSide 55 v l :: s) (fun _ g' s' => g = g' ∧ s' = rowA encSide 55 v (sortBy key l) :: s) := by
 refine Ctr.facts fun ⟨w0, hw0⟩ => ?_
 obtain ⟨p, c, rfl⟩ := rowA_form (i := 0) hw0 rfl
 clear hw0 w0
 refine Ctr.of (args := [.slice p l.length c, cv]) func108 rfl ntmps108 (Nat.le_of_ble_eq_true rfl) ?_
 refine SC.region (SL.M rfl (SL.M rfl (SL.U (SU.lenN underlying49 rfl) (SL.M rfl (SL.W (SO.call call135 rfl (stableS E g s _ cv key hc l hn _ rfl)) ?_)))))
 rintro _ _ _ ⟨rfl, rfl⟩
 refine SL.nil ?_
 exact ST.ret0 (.inr rfl) results108 ⟨rfl, rfl⟩
def KeyOkS (E : World) (kv : Value) (key : Side → Int) (g : PH) : Prop :=
 ∀ g' s a, Le g g' → CallV Tryz.prog E kv [.agg (encSide.enc a).toArray] g' s (fun r g'' s'' => r = vi (key a) ∧ g' = g'' ∧ s = s'')
theorem cmpByS (E : World) (g : PH) (b : Nat) (kv : Value) (key : Side → Int) (hk : KeyOkS E kv key g) (hb : g b = some (.cells #[kv] 108 (0, 0))) : CmpOk E (.func (.func 109) #[] #[pp b 0]) encSide key g := by
 intro g s x y hle
 refine CallV.mk (cap := [pp b 0]) call109 ?_
 have hb' := hle _ _ hb
 refine Ctr.of (args := [.agg (encSide.enc x).toArray, .agg (encSide.enc y).toArray, pp b 0]) func109 rfl ntmps109 (Nat.le_of_ble_eq_true rfl) ?_
 refine SC.seq (SC.region (SL.W (SO.box rfl) ?_))
 rintro _ _ _ ⟨b3, rfl, rfl, rfl⟩
 refine SL.W (SO.box rfl) ?_
 rintro _ _ _ ⟨b4, rfl, rfl, rfl⟩
 refine SL.A rfl (SL.nil (ST.thenN (SC.seq ?_)))
 refine SC.draw [] [(0, 1), (1, 1), (3, 1), (4, 1), (2, 0), (5, 0), (6, 0), (7, 2)] Tryz.mixed (by kernel_rfl) ?_
 refine SP.K (i := 0) rfl (SQ.load isAgg108 rfl (CellAt.known hb' rfl)) (SP.K (i := 1) rfl (SQ.loadVarK 1 isAgg55 sizeOf55 rfl rfl rfl) (SP.K (i := 3) rfl (SQ.load isAgg108 rfl (CellAt.known hb' rfl)) (SP.K (i := 4) rfl (SQ.loadVarK 0 isAgg55 sizeOf55 rfl rfl rfl) (SP.o (i := 2) rfl (SO.callV rfl rfl (hk _ _ x hle)) dC (.inr (by rintro _ _ _ ⟨rfl, rfl, rfl⟩; exact ⟨by exact Le.refl _, (by exact .refl _)⟩)) ?_))))
 rintro _ _ _ ⟨rfl, rfl, rfl⟩
 refine SP.o (i := 5) rfl (SO.callV rfl rfl (hk _ _ y hle)) dC (.inr (by rintro _ _ _ ⟨rfl, rfl, rfl⟩; exact ⟨by exact Le.refl _, (by exact .refl _)⟩)) ?_
 rintro _ _ _ ⟨rfl, rfl, rfl⟩
 refine SP.o (i := 6) rfl (SO.call call89 rfl (compare_spec E g _ (key x) (key y))) dC (.inr (by rintro _ _ _ ⟨rfl, rfl, rfl⟩; exact ⟨by exact Le.refl _, (by exact .refl _)⟩)) ?_
 rintro _ _ _ ⟨rfl, rfl, rfl⟩
 refine SP.U (i := 7) rfl (SU.assign rfl) (SP.nil (ST.thenN (SC.ret (ST.drop (s' := s) (.cons _ (.cons _ (.refl _))) ?_))))
 exact ST.ret1 (.inl rfl) results109 rfl ⟨rfl, rfl, rfl⟩
theorem cloneS (E : World) (g : PH) (s : Own) (v : Value) (l : List Side) (hv : SlA encSide g v l) (hn : l.length < 1099511627776) :
  Ctr Tryz.prog E 107 #[v] g s (fun r g' s' => g = g' ∧ s' = rowA encSide 55 r l :: s) := by
 obtain ⟨p, c, rfl⟩ := SlA.form hv
 refine Ctr.of (args := [.slice p l.length c]) func107 rfl ntmps107 (Nat.le_of_ble_eq_true rfl) ?_
 refine SC.seq (SC.region (SL.A rfl (SL.nil (ST.thenN (SC.seq (SC.seq (SC.region (SL.M rfl (SL.U (SU.eqlNil underlying49 rfl rfl) (SL.nil (ST.thenN ?_)))))))))))
 refine SC.ifB rfl (fun hp => ?_) (fun hp => ?_)
 ·refine SC.seq (SC.region (SL.A rfl (SL.nil (ST.thenN (SC.ret (ST.thenR ?_))))))
  have hl : l = [] := by
   cases l with
   | nil => rfl
   | cons x r =>
    have hb := SlA.based hv (by simp)
    cases p with
    | none => simp [based] at hb
    | some q => simp at hp
  subst hl
  refine ST.nilRow 55 2 ?_
  exact ST.ret1 (.inl rfl) results107 rfl ⟨rfl, rfl⟩
 ·refine SC.skip (ST.thenN (SC.seq (SC.region (SL.W (SO.buildSlice sty49 rfl rfl rfl (szs_mk trivial) dC) ?_))))
  rintro _ _ _ ⟨b5, rfl, rfl, rfl⟩
  refine SL.emptyRow 55 2 (some ⟨b5, 0, none⟩) (SL.M rfl (SL.W (SO.appendE (m := l.length) 0 l.length (l.flatMap encSide.enc) sty49 rfl rfl rfl rfl rfl (Sl.rd hv) (encSide.length l) (encSide.ones l) oM (by simp) oM oM) ?_))
  rintro r7 _ _ ⟨rfl, rfl⟩
  refine SL.A rfl (SL.nil (ST.thenN (SC.ret (ST.drop (s' := rowA encSide 55 r7 l :: s) (.cons_cons _ (.cons _ (.refl _))) ?_))))
  exact ST.ret1 (.inl rfl) results107 rfl ⟨rfl, rfl⟩
theorem sortedS (E : World) (g : PH) (s : Own) (v : Value) (kn : FuncId) (kc : Array Value) (key : Side → Int) (hk : KeyOkS E (.func (.func kn) #[] kc) key g) (l : List Side) (hv : SlA encSide g v l) (hn : l.length < 1099511627776) :
  Ctr Tryz.prog E 79 #[v, .func (.func kn) #[] kc] g s (fun r g' s' => g = g' ∧ s' = rowA encSide 55 r (sortBy key l) :: s) := by
 refine Ctr.of (args := [v, .func (.func kn) #[] kc]) func79 rfl ntmps79 (Nat.le_of_ble_eq_true rfl) ?_
 refine SC.seq (SC.region (SL.W (SO.box rfl) ?_))
 rintro _ _ _ ⟨b3, rfl, rfl, rfl⟩
 refine SL.freeze fun g1 hle hb => ?_
 refine SL.A rfl (SL.nil (ST.thenN (SC.seq (SC.region (SL.M rfl (SL.W (SO.call call107 rfl (cloneS E g1 s v l (hv.mono hle) hn)) ?_))))))
 rintro r7 _ _ ⟨rfl, rfl⟩
 refine SL.A rfl (SL.nil (ST.thenN (SC.seq (SC.region (SL.M rfl (SL.U (SU.mkFunc rfl) (SL.W (SO.call call108 rfl (sortStableS E g1 s r7 _ key (cmpByS E g1 b3 _ key (fun g' s a h => hk g' s a (hle.trans h)) hb) l oM)) ?_)))))))
 rintro _ _ _ ⟨rfl, rfl⟩
 refine SL.nil (ST.thenN (SC.seq (SC.region (SL.M rfl (SL.A rfl (SL.nil (ST.thenN (SC.ret (ST.less hle ?_)))))))))
 exact ST.ret1 (.inl rfl) results79 rfl ⟨rfl, rfl⟩
structure Cl where
 id : Int
 dim : Int
 sides : List Side
 deriving DecidableEq
def CellR (g : PH) (c : Cl) (r : Rc) : Prop := r.id = c.id ∧ r.dim = c.dim ∧ SlA encSide g (.slice r.sv.p r.sv.n r.sv.c) c.sides
theorem CellR.mono {g g' : PH} (hl : Le g g') {c : Cl} {r : Rc} (h : CellR g c r) : CellR g' c r := ⟨h.1, h.2.1, h.2.2.mono hl⟩
def Cells (g : PH) (v : Value) (l : List Cl) : Prop := ∃ rs, SlA encCell g v rs ∧ All2 (CellR g) l rs
theorem Cells.mono {g g' : PH} {v : Value} {l : List Cl} (h : Cells g v l) (hl : Le g g') : Cells g' v l := by
 obtain ⟨rs, h1, h2⟩ := h
 exact ⟨rs, h1.mono hl, h2.mono fun _ _ => CellR.mono hl⟩
theorem Cells.form {g : PH} {v : Value} {l : List Cl} (h : Cells g v l) : ∃ p c, v = .slice p l.length c := by
 obtain ⟨rs, h1, h2⟩ := h
 rw [h2.length]
 exact h1.form
def Fits (l : List Cl) : Prop := l.length < 1099511627776 ∧ ∀ c ∈ l, c.sides.length < 1099511627776
def normC (c : Cl) : Cl := ⟨c.id, c.dim, sortBy Side.cell c.sides⟩
def canonC (l : List Cl) : List Cl := (sortBy Cl.id l).map normC
theorem Tryz.build27 (x : Value) (h : x.cells = #[x]) (w : World) : (Instr.build 27 #[(0, x)]).run Tryz.prog w = .ok (.agg #[x]) w := by
 have hz : (Value.agg #[Value.slice none 0 0]).cells = #[.slice none 0 0] := rfl
 simp [Instr.build, Instr.fill, h, hz]
theorem sideNeq (x y : Side) (w : World) : (binOp .neq 55 (.agg (encSide.enc x).toArray) (.agg (encSide.enc y).toArray)).run Tryz.prog w = .ok (.bool (decide (x ≠ y))) w := by
 have hu : Tryz.prog.underlying 55 = some (.struct (Tryz.prog.fieldsOf 55)) := by kernel_rfl
 have hf : (Tryz.prog.fieldsOf 55).toList = (Tryz.prog.fieldsOf 55).toList := rfl
 rw [run_neq_struct, run_equalIn_agg w 9999 55 _ _ hu stoodInHeld55]
 have hfs : ∃ f1 f2, (Tryz.prog.fieldsOf 55).toList = [f1, f2] ∧ f1.name ≠ "_" ∧ f2.name ≠ "_" ∧ f1.type = 3 ∧ f2.type = 3 ∧ f1.offset = 0 ∧ f2.offset = 1 := ⟨_, _, rfl, by decide, by decide, rfl, rfl, rfl, rfl⟩
 obtain ⟨f1, f2, e, n1, n2, t1, t2, o1, o2⟩ := hfs
 obtain ⟨a, b⟩ := x
 obtain ⟨c, d⟩ := y
 rw [e]
 have h1 := run_equalIn_int (P := Tryz.prog) w 9998 3 .i64 .i64 a c underlying3
 have h2 := run_equalIn_int (P := Tryz.prog) w 9998 3 .i64 .i64 b d underlying3
 simp only [Op.eqFields, n1, n2, t1, t2, o1, o2, encSide, part, ne_eq, not_false_eq_true, if_true, Sem.run_bind, isAgg3, Result.andThen_ok]
 simp [h1, h2]
 by_cases hac : a = c <;> by_cases hbd : b = d <;> simp [hac, hbd]
theorem keyId (E : World) (g : PH) : KeyOkC E (.func (.func 78) #[] #[]) Rc.id g := by
 intro g s a hle
 refine CallV.mk (cap := []) call78 ?_
 refine Ctr.of (args := [.agg (encCell.enc a).toArray]) func78 rfl ntmps78 (Nat.le_of_ble_eq_true rfl) ?_
 refine SC.seq (SC.region (SL.W (SO.box rfl) ?_))
 rintro _ _ _ ⟨b1, rfl, rfl, rfl⟩
 refine SL.A rfl (SL.nil (ST.thenN (SC.seq (SC.region (SL.U (SU.fieldAddr underlying51 rfl sizeOf3 rfl) (SL.K (SQ.load isAgg3 rfl (CellAt.own 0 rfl rfl)) (SL.A rfl (SL.nil (ST.thenN (SC.ret (ST.drop (s' := s) (.cons _ (.refl _)) ?_)))))))))))
 exact ST.ret1 (.inl rfl) results78 rfl ⟨rfl, rfl, rfl⟩
theorem keyCell (E : World) (g : PH) : KeyOkS E (.func (.func 80) #[] #[]) Side.cell g := by
 intro g s a hle
 refine CallV.mk (cap := []) call80 ?_
 refine Ctr.of (args := [.agg (encSide.enc a).toArray]) func80 rfl ntmps80 (Nat.le_of_ble_eq_true rfl) ?_
 refine SC.seq (SC.region (SL.W (SO.box rfl) ?_))
 rintro _ _ _ ⟨b1, rfl, rfl, rfl⟩
 refine SL.A rfl (SL.nil (ST.thenN (SC.seq (SC.region (SL.U (SU.fieldAddr underlying55 rfl sizeOf3 rfl) (SL.K (SQ.load isAgg3 rfl (CellAt.own 0 rfl rfl)) (SL.A rfl (SL.nil (ST.thenN (SC.ret (ST.drop (s' := s) (.cons _ (.refl _)) ?_)))))))))))
 exact ST.ret1 (.inl rfl) results80 rfl ⟨rfl, rfl, rfl⟩
theorem canon_spec (E : World) (g : PH) (s : Own) (v : Value) (l : List Cl) (hv : Cells g v l) (hf : Fits l) :
  Ctr Tryz.prog E 30 #[.agg #[v]] g s (fun r g' s' => s = s' ∧ Le g g' ∧ ∃ u, r = .agg #[u] ∧ Cells g' u (canonC l)) := by
 obtain ⟨rs, hrs, hall⟩ := hv
 have hlen := hall.length
 have hfl := hf.1
 have hall' := All2.sortBy (f := Cl.id) (h := Rc.id) (fun a b h => h.1.symm) hall
 obtain ⟨p, c, rfl⟩ := SlA.form hrs
 refine Ctr.of (args := [.agg #[.slice p rs.length c]]) func30 rfl ntmps30 (Nat.le_of_ble_eq_true rfl) ?_
 refine SC.seq (SC.region (SL.W (SO.box rfl) ?_))
 rintro _ _ _ ⟨b1, rfl, rfl, rfl⟩
 refine SL.W (SO.alloc zeroValue27) ?_
 rintro _ _ _ ⟨b2, rfl, rfl, rfl⟩
 refine SL.nil (ST.thenN (SC.seq (SC.region (SL.U (SU.fieldAddr underlying27 rfl sizeOf25 rfl) (SL.K (SQ.load isAgg25 rfl (CellAt.own 1 rfl rfl)) (SL.W (SO.call call77 rfl (sortedC E g _ _ 78 #[] Rc.id (keyId E g) rs hrs oM)) ?_))))))
 rintro r3 _ _ ⟨rfl, rfl⟩
 refine SL.facts fun ⟨w0, hw0⟩ => ?_
 obtain ⟨q, d, rfl⟩ := rowA_form (i := 0) hw0 rfl
 have hbq : 0 < (sortBy Rc.id rs).length → based (.slice q (sortBy Rc.id rs).length d) = true := fun h => (by obtain ⟨b0, c0, he⟩ := rowA_based (i := 0) hw0 rfl h; rw [he]; rfl)
 clear hw0 w0
 refine SL.A rfl (SL.nil (ST.thenN (SC.seq (SC.seq (SC.region (SL.M rfl (SL.U (SU.lenN underlying25 rfl) (SL.M rfl (SL.nil (ST.thenN (SC.block ?_)))))))))))
 have hsl : (sortBy Rc.id rs).length = rs.length := sortBy_length rs
 refine SC.loop (ι := PH × List Rc × List Rc × List Cl × List Cl) (fun i => [(2, pp b2 0), (3, .slice q (sortBy Rc.id rs).length d), (9, vi (sortBy Rc.id rs).length), (10, vi i.2.1.length)]) (fun i => i.1)
  (fun i => rowA encCell 51 (.slice q (sortBy Rc.id rs).length d) (i.2.1 ++ i.2.2.1) :: pt b2 (.cells #[.slice none 0 0] 27 (0, 0)) :: pt b1 (.cells #[.slice p rs.length c] 27 (0, 0)) :: s)
  (fun i => Le g i.1 ∧ All2 (CellR i.1) i.2.2.2.1 i.2.1 ∧ All2 (CellR g) i.2.2.2.2 i.2.2.1 ∧ canonC l = i.2.2.2.1 ++ i.2.2.2.2.map normC ∧ (i.2.1.length + i.2.2.1.length = (sortBy Rc.id rs).length ∧ ∀ x ∈ i.2.2.2.2, x ∈ l)) (fun i => i.2.2.1.length)
  (g, [], sortBy Rc.id rs, [], sortBy Cl.id l) ⟨rfl, rfl, rfl, rfl, trivial⟩ rfl rfl ⟨Le.refl g, trivial, hall', by simp [canonC], by simp, fun x hx => (sortBy_mem l x).1 hx⟩ ?_
 rintro ⟨g1, ds, rest, dl, rl⟩ ⟨hle, hd, hr, hcan, hlen1, hmem⟩
 dsimp only at hle hd hr hcan hlen1 hmem ⊢
 have hrl := hr.length
 refine SC.seq (SC.region (SL.U (SU.lss rfl rfl) (SL.nil (ST.thenN (SC.seq ?_)))))
 refine SC.ifP rfl (fun hlt => ?_) (fun hlt => ?_)
 ·cases rest with
  | nil => simp at hlen1; omega
  | cons x rest =>
  obtain ⟨cx, rl', hrle, hcx, hr'⟩ := hr.cons_right
  subst hrle
  have hxl : cx.sides.length < 1099511627776 := hf.2 cx (hmem cx (by simp))
  simp only [List.length_cons] at hlen1
  have hgx : (ds ++ x :: rest)[((ds.length : Nat) : Int).toNat]? = some x := get_mid oM
  have hbs : based (.slice q (sortBy Rc.id rs).length d) = true := hbq oM
  refine SC.skip (ST.thenN (SC.seq (SC.block (SC.seq (SC.region (SL.M rfl (SL.A rfl (SL.nil (ST.thenN (SC.region (SL.M rfl (SL.M rfl (SL.M rfl (SL.M rfl (SL.U (SU.indexAddr underlying25 sizeOf51 rfl rfl hbs oM sL) (SL.U (SU.fieldAddrC underlying51 rfl sizeOf49 rfl hbs) (SL.K (SQ.partA (o := 2) isAgg49 rfl (Rd.rowA 0 rfl) hgx rfl) (SL.W (SO.call call79 rfl (sortedS E g1 _ _ 80 #[] Side.cell (keyCell E g1) cx.sides (hcx.2.2.mono hle) hxl)) ?_))))))))))))))))))
  rintro r20 _ _ ⟨rfl, rfl⟩
  refine SL.freezeRow fun g2 hle2 hs2 => ?_
  obtain ⟨q2, d2, rfl⟩ := hs2.form
  refine SL.U (SU.indexAddr underlying25 sizeOf51 rfl rfl hbs oM sL) (SL.U (SU.fieldAddrC underlying51 rfl sizeOf49 rfl hbs) (SL.on (SO.partA (o := 2) 0 ⟨x.id, x.dim, q2, _, d2⟩ sizeOf49 rfl rfl rfl hgx rfl rfl dC rfl) ?_))
  rintro _ _ _ ⟨rfl, rfl⟩
  refine SL.nil (ST.blockN (ST.thenN (SC.region (SL.U (SU.add rfl rfl oM) (SL.M rfl (SL.nil ?_))))))
  exact ST.again (g2, ds ++ [⟨x.id, x.dim, q2, (sortBy Side.cell cx.sides).length, d2⟩], rest, dl ++ [normC cx], rl') ⟨rfl, rfl, rfl, vi_eq lN, trivial⟩ rfl (by
    dsimp only
    rw [show (ds ++ x :: rest).set ((ds.length : Nat) : Int).toNat ⟨x.id, x.dim, q2, (sortBy Side.cell cx.sides).length, d2⟩ = ds ++ [⟨x.id, x.dim, q2, (sortBy Side.cell cx.sides).length, d2⟩] ++ rest by rw [set_mid oM]; simp]
    rfl) ⟨hle.trans hle2, (hd.mono fun _ _ => CellR.mono hle2).append ⟨(by exact ⟨hcx.1, hcx.2.1, hs2⟩ : CellR g2 (normC cx) ⟨x.id, x.dim, q2, (sortBy Side.cell cx.sides).length, d2⟩), trivial⟩, hr', by rw [hcan]; simp, lN, fun y hy => hmem y (by simp [hy])⟩ lN
 ·have hr0 : rest = [] := List.eq_nil_of_length_eq_zero oM
  subst hr0
  have hrl0 : rl = [] := hr.nil_right
  subst hrl0
  refine SC.exit (ST.thenX (ST.thenX (ST.blockX (ST.thenN (SC.seq (SC.region (SL.freezeRow fun g2 hle2 hs2 => ?_)))))))
  refine SL.M rfl (SL.U (SU.build rfl (build27 _ rfl)) (SL.on (SO.storeAllK 0 sizeOf27 rfl rfl rfl rfl rfl (by exact ⟨rfl, trivial⟩)) ?_))
  rintro _ _ _ ⟨rfl, rfl⟩
  refine SL.nil (ST.thenN (SC.ret ?_))
  refine ST.retCD 0 s (.inl rfl) results30 rfl isAgg27 sizeOf27 rfl rfl (.cons _ (.cons _ (.refl _))) ⟨rfl, hle.trans hle2, _, rfl, ds, ?_, ?_⟩
  ·simpa [SlA] using hs2
  ·rw [hcan]
   simpa using hd.mono fun _ _ => CellR.mono hle2
theorem take_eq_succ {α : Type} {l m : List α} {k : Nat} (h1 : k < l.length) (h2 : k < m.length) (h : l.take k = m.take k) (he : l[k] = m[k]) : l.take (k + 1) = m.take (k + 1) := by
 rw [List.take_succ_eq_append_getElem h1, List.take_succ_eq_append_getElem h2, h, he]
theorem take_eq_all {α : Type} {l m : List α} (hl : l.length = m.length) (h : l.take l.length = m.take l.length) : l = m := by
 rw [List.take_of_length_le (Nat.le_refl _), List.take_of_length_le oM] at h
 exact h
theorem SU.neqSide {N : Nat} {f : Fr} {dst : Option Tmp} {ty : TypeId} {pos : String} {af : Array Edge} {gd : Option (Nat × Bool)} {x y : Operand} {a b : Side} {U : TypeId} (hx : ev f x = some (.agg (encSide.enc a).toArray)) (hy : ev f y = some (.agg (encSide.enc b).toArray)) :
  SU Tryz.prog N ⟨dst, .binOp .neq 55 x y U, ty, pos, af, gd⟩ f (.bool (decide (a ≠ b))) := fun ac w ha => by
 have hg := run_eqGuard_agg (P := Tryz.prog) w .neq 55 x y (encSide.enc a).toArray (encSide.enc b).toArray eqGuardType55
 simp only [execOp, ha.ev hx, ha.ev hy, Sem.run_bind, hg, Result.andThen_ok, sideNeq]
 rfl
theorem equalSides (E : World) (g : PH) (s : Own) (v u : Value) (l m : List Side) (hv : SlA encSide g v l) (hu : SlA encSide g u m) (hl : l.length < 1099511627776) :
  Ctr Tryz.prog E 100 #[v, u] g s (fun r g' s' => r = vb (decide (l = m)) ∧ g = g' ∧ s = s') := by
 obtain ⟨p, c, rfl⟩ := hv.form
 obtain ⟨q, d, rfl⟩ := hu.form
 refine Ctr.of (args := [.slice p l.length c, .slice q m.length d]) func100 rfl ntmps100 (Nat.le_of_ble_eq_true rfl) ?_
 refine SC.seq (SC.region (SL.A rfl (SL.nil (ST.thenN (SC.seq (SC.seq (SC.region (SL.M rfl (SL.U (SU.lenN underlying49 rfl) (SL.M rfl (SL.U (SU.lenN underlying49 rfl) (SL.U (SU.neq rfl rfl) (SL.nil (ST.thenN ?_))))))))))))))
 refine SC.ifP rfl (fun hne => ?_) (fun hne => ?_)
 ·refine SC.seq (SC.region (SL.A rfl (SL.nil (ST.thenN (SC.ret (ST.thenR ?_))))))
  exact ST.ret1 (.inl rfl) results100 rfl ⟨by have : l ≠ m := fun e => hne (by rw [e]); simp [this], rfl, rfl⟩
 ·refine SC.skip (ST.thenN (SC.seq (SC.seq (SC.region (SL.M rfl (SL.U (SU.lenN underlying49 rfl) (SL.M rfl (SL.nil (ST.thenN (SC.block ?_))))))))))
  have hlen : l.length = m.length := oM
  refine SC.loop (ι := Nat) (fun k => [(0, .slice p l.length c), (1, .slice q m.length d), (12, vi l.length), (13, vi k)]) (fun _ => g) (fun _ => s) (fun k => k ≤ l.length ∧ l.take k = m.take k) (fun k => l.length - k) 0
   ⟨rfl, rfl, rfl, rfl, trivial⟩ rfl rfl ⟨Nat.zero_le _, by simp⟩ ?_
  rintro k ⟨hk, heq⟩
  refine SC.seq (SC.region (SL.U (SU.lss rfl rfl) (SL.nil (ST.thenN (SC.seq ?_)))))
  refine SC.ifP rfl (fun hlt => ?_) (fun hlt => ?_)
  ·have hkl : k < l.length := oM
   have hkm : k < m.length := oM
   have hb1 := hv.based oM
   have hb2 := hu.based oM
   refine SC.skip (ST.thenN (SC.seq (SC.block (SC.seq (SC.region (SL.M rfl (SL.A rfl (SL.nil (ST.thenN (SC.seq ?_))))))))))
   refine SC.draw [] [(0, 2), (1, 2), (2, 2), (3, 1), (4, 2), (5, 2), (6, 2), (7, 1), (8, 2)] Tryz.mixed (by kernel_rfl) ?_
   refine SP.U (i := 0) rfl (SU.move rfl) (SP.U (i := 1) rfl (SU.move rfl) (SP.U (i := 2) rfl (SU.indexAddr underlying49 sizeOf55 rfl rfl hb1 oM sL) ?_))
   refine SP.q (i := 3) rfl (SQ.elemA isAgg55 sizeOf55 rfl hv.rd (List.getElem?_eq_getElem hkl)) dC ?_
   refine SP.U (i := 4) rfl (SU.move rfl) (SP.U (i := 5) rfl (SU.move rfl) (SP.U (i := 6) rfl (SU.indexAddr underlying49 sizeOf55 rfl rfl hb2 oM sL) ?_))
   refine SP.q (i := 7) rfl (SQ.elemA isAgg55 sizeOf55 rfl hu.rd (List.getElem?_eq_getElem hkm)) dC ?_
   refine SP.U (i := 8) rfl (SU.neqSide rfl rfl) (SP.nil (ST.thenN ?_))
   refine SC.ifP rfl (fun hd => ?_) (fun hd => ?_)
   ·refine SC.seq (SC.region (SL.A rfl (SL.nil (ST.thenN (SC.ret (ST.blockR (ST.thenR (ST.thenR (ST.blockR (ST.thenR ?_))))))))))
    exact ST.ret1 (.inl rfl) results100 rfl ⟨by have : l ≠ m := fun e => hd (by simp [e]); simp [this], rfl, rfl⟩
   ·refine SC.skip (ST.blockN (ST.thenN (SC.region (SL.U (SU.add rfl rfl oM) (SL.M rfl (SL.nil ?_))))))
    exact ST.again (k + 1) ⟨rfl, rfl, rfl, rfl, trivial⟩ rfl rfl ⟨oM, take_eq_succ hkl hkm heq (Decidable.of_not_not hd)⟩ oM
  ·refine SC.exit (ST.thenX (ST.thenX (ST.blockX (ST.thenN (SC.seq (SC.region (SL.A rfl (SL.nil (ST.thenN (SC.ret ?_))))))))))
   have hkk : k = l.length := oM
   subst hkk
   have : l = m := take_eq_all hlen heq
   exact ST.ret1 (.inl rfl) results100 rfl ⟨by simp [this], rfl, rfl⟩
theorem cl_eq {x y : Cl} : x = y ↔ x.id = y.id ∧ x.dim = y.dim ∧ x.sides = y.sides := by
 cases x; cases y; simp
theorem same_spec (E : World) (g : PH) (s : Own) (a b : Cl) (ra rb : Rc) (ha : CellR g a ra) (hb : CellR g b rb) (hl : a.sides.length < 1099511627776) :
  Ctr Tryz.prog E 69 #[.agg (encCell.enc ra).toArray, .agg (encCell.enc rb).toArray] g s (fun r g' s' => r = vb (decide (a = b)) ∧ g = g' ∧ s = s') := by
 obtain ⟨i1, d1, ⟨p1, n1, c1⟩⟩ := ra
 obtain ⟨i2, d2, ⟨p2, n2, c2⟩⟩ := rb
 obtain ⟨rfl, rfl, hs1⟩ := ha
 obtain ⟨rfl, rfl, hs2⟩ := hb
 refine Ctr.of (args := [.agg (encCell.enc ⟨a.id, a.dim, ⟨p1, n1, c1⟩⟩).toArray, .agg (encCell.enc ⟨b.id, b.dim, ⟨p2, n2, c2⟩⟩).toArray]) func69 rfl ntmps69 (Nat.le_of_ble_eq_true rfl) ?_
 refine SC.seq (SC.region (SL.W (SO.box rfl) ?_))
 rintro _ _ _ ⟨b2, rfl, rfl, rfl⟩
 refine SL.W (SO.box rfl) ?_
 rintro _ _ _ ⟨b3, rfl, rfl, rfl⟩
 refine SL.A rfl (SL.nil (ST.thenN ?_))
 refine SC.cutB 4 (decide (a = b)) ?_ ?_
 ·refine SC.region (SL.U (SU.fieldAddr underlying51 rfl sizeOf3 rfl) (SL.K (SQ.load isAgg3 rfl (CellAt.own 1 rfl rfl)) (SL.U (SU.fieldAddr underlying51 rfl sizeOf3 rfl) (SL.K (SQ.load isAgg3 rfl (CellAt.own 0 rfl rfl)) (SL.U (SU.eql rfl rfl) (SL.M rfl ?_))))))
  refine SL.split ?_ ?_
  ·intro h10
   refine SL.Y rfl rfl rfl (SU.fieldAddr underlying51 rfl sizeOf3 rfl) (SL.gq (Gd.onT rfl rfl rfl dC) (SQ.load isAgg3 rfl (CellAt.own 1 rfl rfl)) dC (SL.Y rfl rfl rfl (SU.fieldAddr underlying51 rfl sizeOf3 rfl) (SL.gq (Gd.onT rfl rfl rfl dC) (SQ.load isAgg3 rfl (CellAt.own 0 rfl rfl)) dC (SL.Y rfl rfl rfl (SU.eql rfl rfl) (SL.U (SU.pickT rfl rfl) (SL.M rfl ?_))))))
   refine SL.split ?_ ?_
   ·intro h17
    refine SL.Y rfl rfl rfl (SU.fieldAddr underlying51 rfl sizeOf49 rfl) (SL.gq (Gd.onT rfl rfl rfl dC) (SQ.load isAgg49 rfl (CellAt.own 1 rfl rfl)) dC (SL.Y rfl rfl rfl (SU.fieldAddr underlying51 rfl sizeOf49 rfl) (SL.gq (Gd.onT rfl rfl rfl dC) (SQ.load isAgg49 rfl (CellAt.own 0 rfl rfl)) dC (SL.go (Gd.onT rfl rfl rfl dC) (SO.call call100 rfl (equalSides E g _ _ _ a.sides b.sides hs1 hs2 hl)) dC ?_))))
    rintro _ _ _ ⟨rfl, rfl, rfl⟩
    refine SL.U (SU.pickT rfl rfl) (SL.A rfl (SL.nil ?_))
    exact ST.mid1 (by simp_all [get?, cl_eq]) mI
   ·intro h17
    refine SL.Z rfl rfl rfl (SL.Z rfl rfl rfl (SL.Z rfl rfl rfl (SL.Z rfl rfl rfl (SL.Z rfl rfl rfl (SL.U (SU.pickF rfl rfl) (SL.A rfl (SL.nil ?_)))))))
    exact ST.mid1 (by simp_all [get?, cl_eq]) mI
  ·intro h10
   refine SL.Z rfl rfl rfl (SL.Z rfl rfl rfl (SL.Z rfl rfl rfl (SL.Z rfl rfl rfl (SL.Z rfl rfl rfl (SL.U (SU.pickF rfl rfl) (SL.M rfl (SL.Z rfl rfl rfl (SL.Z rfl rfl rfl (SL.Z rfl rfl rfl (SL.Z rfl rfl rfl (SL.Z rfl rfl rfl (SL.U (SU.pickF rfl rfl) (SL.A rfl (SL.nil ?_))))))))))))))
   exact ST.mid1 (by simp_all [get?, cl_eq]) mI
 refine SC.ret (ST.drop (s' := s) (.cons _ (.cons _ (.refl _))) ?_)
 exact ST.ret1 (.inl rfl) results69 rfl ⟨rfl, rfl, rfl⟩
theorem canonC_fits {l : List Cl} (h : Fits l) : Fits (canonC l) := by
 refine ⟨by simp [canonC, sortBy_length]; exact h.1, fun c hc => ?_⟩
 simp only [canonC, List.mem_map] at hc
 obtain ⟨c0, h0, rfl⟩ := hc
 simp only [normC, sortBy_length]
 exact h.2 c0 ((sortBy_mem l c0).1 h0)
theorem Tryz.mty86 : MTy Tryz.prog 86 3 51 (.agg #[vi 0, vi 0, .slice none 0 0]) := ⟨underlying86, underlying3, zeroValue51⟩
def addC (acc : List Cl) (c : Cl) : List Cl := if acc.any (fun x => x.id == c.id) then acc else acc ++ [c]
theorem addC_old {acc : List Cl} {c : Cl} (h : acc.any (fun x => x.id == c.id) = true) : addC acc c = acc := if_pos h
theorem addC_new {acc : List Cl} {c : Cl} (h : acc.any (fun x => x.id == c.id) = false) : addC acc c = acc ++ [c] := if_neg (by rw [h]; simp)
def tabC (l : List Cl) : List Cl := (canonC l).foldl addC []
def rcv (r : Rc) : Value := .agg (encCell.enc r).toArray
def rcPair (r : Rc) : Int × Value := (r.id, rcv r)
def Tab (g : PH) (v : Value) (tl : List Cl) : Prop :=
 ∃ b m iv rs, v = pp b 0 ∧ g b = some (.cells #[.map (some m), iv] 88 (0, 0)) ∧ Mp g m (rs.map rcPair) ∧ Ints g iv (tl.map Cl.id) ∧ All2 (CellR g) tl rs
theorem Tab.mono {g g' : PH} {v : Value} {tl : List Cl} (h : Tab g v tl) (hl : Le g g') : Tab g' v tl := by
 obtain ⟨b, m, iv, rs, h1, h2, h3, h4, h5⟩ := h
 exact ⟨b, m, iv, rs, h1, hl _ _ h2, h3.mono hl, h4.mono hl, h5.mono fun _ _ => CellR.mono hl⟩
theorem mget_pairs (rs : List Rc) (k : Int) : mget (rs.map rcPair) k = (rs.find? (fun r => r.id == k)).map rcv := by
 induction rs with
 | nil => rfl
 | cons r t ih =>
  simp only [List.map_cons, rcPair, mget_cons, List.find?_cons]
  by_cases h : k = r.id
  ·subst h; simp
  ·have : (r.id == k) = false := by simpa using fun e => h e.symm
   rw [this, if_neg h, ← ih]
theorem all2_any {g : PH} {tl : List Cl} {rs : List Rc} (h : All2 (CellR g) tl rs) (k : Int) : tl.any (fun x => x.id == k) = rs.any (fun r => r.id == k) := by
 induction tl generalizing rs with
 | nil => cases rs with | nil => rfl | cons _ _ => exact h.elim
 | cons c t ih =>
  cases rs with
  | nil => exact h.elim
  | cons r rs => simp only [List.any_cons, h.1.1, ih h.2]
theorem all2_ids {g : PH} {tl : List Cl} {rs : List Rc} (h : All2 (CellR g) tl rs) : tl.map Cl.id = rs.map Rc.id := by
 induction tl generalizing rs with
 | nil => cases rs with | nil => rfl | cons _ _ => exact h.elim
 | cons c t ih =>
  cases rs with
  | nil => exact h.elim
  | cons r rs => simp only [List.map_cons, h.1.1, ih h.2]
theorem foldl_add_length (l : List Cl) : ∀ acc : List Cl, (l.foldl addC acc).length ≤ acc.length + l.length := by
 induction l with
 | nil => intro acc; simp
 | cons c r ih =>
  intro acc
  simp only [List.foldl_cons]
  have h1 := ih (addC acc c)
  have h2 : (addC acc c).length ≤ acc.length + 1 := by unfold addC; split <;> simp
  simp only [List.length_cons]
  omega
theorem Tryz.build88 (x : Value) (h : x.cells = #[x]) (w : World) : (Instr.build 88 #[(0, x)]).run Tryz.prog w = .ok (.agg #[x, .slice none 0 0]) w := by
 have hz : (Value.agg #[Value.map none, Value.slice none 0 0]).cells = #[.map none, .slice none 0 0] := rfl
 simp [Instr.build, Instr.fill, h, hz]
theorem of_spec (E : World) (g : PH) (s : Own) (v : Value) (l : List Cl) (hv : Cells g v l) (hf : Fits l) :
  Ctr Tryz.prog E 50 #[.agg #[v]] g s (fun r g' s' => s = s' ∧ Le g g' ∧ Tab g' r (tabC l)) := by
 have hfc := canonC_fits hf
 refine Ctr.of (args := [.agg #[v]]) func50 rfl ntmps50 (Nat.le_of_ble_eq_true rfl) ?_
 refine SC.seq (SC.region (SL.W (SO.box rfl) ?_))
 rintro _ _ _ ⟨b1, rfl, rfl, rfl⟩
 refine SL.A rfl (SL.nil (ST.thenN (SC.seq (SC.region (SL.W (SO.mkMap) ?_)))))
 rintro _ _ _ ⟨m, rfl, rfl, rfl⟩
 refine SL.U (SU.build rfl (build88 _ rfl)) (SL.W (SO.box rfl) ?_)
 rintro _ _ _ ⟨b10, rfl, rfl, rfl⟩
 refine SL.A rfl (SL.nil (ST.thenN (SC.seq (SC.seq (SC.region (SL.K (SQ.loadVarK 2 isAgg27 sizeOf27 rfl rfl rfl) (SL.W (SO.call call30 rfl (canon_spec E g _ v l hv hf)) ?_)))))))
 rintro _ g1 _ ⟨rfl, hle, u, rfl, hc⟩
 obtain ⟨rs, hrs, hall⟩ := hc
 obtain ⟨p, c, rfl⟩ := hrs.form
 refine SL.U (SU.field underlying27 rfl isAgg25 rfl rfl) (SL.U (SU.lenN underlying25 rfl) (SL.M rfl (SL.nil (ST.thenN (SC.block ?_)))))
 have hlen := hall.length
 have hfl := hfc.1
 refine SC.nilRow 3 1 ?_
 refine SC.loop (ι := Value × Nat × List Rc) (fun i => [(3, pp b10 0), (13, .slice p rs.length c), (14, vi rs.length), (15, vi i.2.1)]) (fun _ => g1)
  (fun i => rowA encInt 3 i.1 (i.2.2.map Rc.id) :: pt b10 (.cells #[.map (some m), i.1] 88 (0, 0)) :: mp m (i.2.2.map rcPair) :: pt b1 (.cells #[v] 27 (0, 0)) :: s)
  (fun i => i.2.1 ≤ rs.length ∧ All2 (CellR g1) (((canonC l).take i.2.1).foldl addC []) i.2.2) (fun i => rs.length - i.2.1) (.slice none 0 0, 0, [])
  ⟨rfl, rfl, rfl, rfl, trivial⟩ rfl rfl ⟨Nat.zero_le _, by simp [All2]⟩ ?_
 rintro ⟨iv, k, acc⟩ ⟨hk, hacc⟩
 dsimp only at hk hacc ⊢
 refine SC.seq (SC.region (SL.U (SU.lss rfl rfl) (SL.nil (ST.thenN (SC.seq ?_)))))
 refine SC.ifP rfl (fun hlt => ?_) (fun hlt => ?_)
 ·have hkr : k < rs.length := oM
  have hkl : k < (canonC l).length := oM
  have hb1 := hrs.based oM
  have hcr := hall.get (List.getElem?_eq_getElem hkl) (List.getElem?_eq_getElem hkr)
  have hany := all2_any hacc (canonC l)[k].id
  have htake : ((canonC l).take (k + 1)).foldl addC [] = addC (((canonC l).take k).foldl addC []) (canonC l)[k] := by
   rw [List.take_succ_eq_append_getElem hkl, List.foldl_append]; rfl
  have hal := hacc.length
  have hal2 := foldl_add_length ((canonC l).take k) []
  simp only [List.length_take, List.length_nil] at hal2
  generalize hcl : (canonC l)[k] = cx at *
  generalize hrx : rs[k] = x at *
  have hgx : rs[((k : Nat) : Int).toNat]? = some x := by rw [← hrx]; exact List.getElem?_eq_getElem hkr
  cases hget : acc.find? (fun r => r.id == x.id) with
  | some y =>
   refine SC.skip (ST.thenN (SC.seq (SC.block (SC.seq (SC.region (SL.U (SU.indexAddr underlying25 sizeOf51 rfl rfl hb1 oM sL) (SL.K (SQ.elemA isAgg51 sizeOf51 rfl hrs.rd hgx) (SL.W (SO.alloc zeroValue51) ?_))))))))
   rintro _ _ _ ⟨b5, rfl, rfl, rfl⟩
   refine SL.on (SO.storeAllK 0 sizeOf51 rfl rfl rfl rfl rfl (by exact ⟨rfl, rfl, rfl, trivial⟩)) ?_
   rintro _ _ _ ⟨rfl, rfl⟩
   refine SL.nil (ST.thenN (SC.seq ?_))
   refine SC.draw [] [(0, 2), (1, 2), (2, 2), (3, 1), (4, 2), (5, 1), (6, 1), (7, 2), (8, 2), (9, 2), (10, 0), (11, 0), (12, 2)] Tryz.mixed (by kernel_rfl) ?_
   refine SP.U (i := 0) rfl (SU.move rfl) (SP.U (i := 1) rfl (SU.nilCheck rfl) (SP.U (i := 2) rfl (SU.fieldAddr underlying88 rfl sizeOf86 rfl) (SP.K (i := 3) rfl (SQ.load isAgg86 rfl (CellAt.own 2 rfl rfl)) (SP.U (i := 4) rfl (SU.fieldAddr underlying51 rfl sizeOf3 rfl) (SP.K (i := 5) rfl (SQ.load isAgg3 rfl (CellAt.own 0 rfl rfl)) (SP.K (i := 6) rfl (SQ.eq (SQ.lookupOk mty86 rfl rfl (MapAt.own 3 rfl)) (by (rw [mget_pairs, hget]; done))) ?_))))))
   refine SP.U (i := 7) rfl (SU.move rfl) (SP.U (i := 8) rfl (SU.extract rfl rfl) (SP.U (i := 9) rfl (SU.extract rfl rfl) (SP.o (i := 10) rfl (SO.alloc zeroValue51) dC (.inr (by rintro _ _ _ ⟨b6, rfl, rfl, rfl⟩; exact ⟨by exact Le.refl _, (by exact .cons _ (.refl _))⟩)) ?_)))
   rintro _ _ _ ⟨b6, rfl, rfl, rfl⟩
   refine SP.on (i := 11) rfl (SO.storeAllK 0 sizeOf51 rfl rfl rfl rfl rfl (by exact ⟨rfl, rfl, rfl, trivial⟩)) (.inr (by rintro _ _ _ ⟨rfl, rfl⟩; exact ⟨by exact Le.refl _, (by exact .cons _ (.refl _))⟩)) ?_
   rintro _ _ _ ⟨rfl, rfl⟩
   refine SP.U (i := 12) rfl (SU.assign rfl) (SP.nil (ST.thenN (SC.seq (SC.region (SL.M rfl (SL.U (SU.not rfl) (SL.nil (ST.thenN (SC.condF rfl (SC.skip (ST.blockN (ST.thenN (SC.region (SL.U (SU.add rfl rfl oM) (SL.M rfl (SL.nil (ST.drop (s' := rowA encInt 3 iv (acc.map Rc.id) :: pt b10 (.cells #[.map (some m), iv] 88 (0, 0)) :: mp m (acc.map rcPair) :: pt b1 (.cells #[v] 27 (0, 0)) :: s) (.cons _ (.cons _ (.refl _))) ?_)))))))))))))))))
   have h1 : acc.any (fun r => r.id == cx.id) = true := by
    rw [List.any_eq_true]
    exact ⟨y, List.mem_of_find?_eq_some hget, by have := List.find?_some hget; rw [← hcr.1]; exact this⟩
   exact ST.again (iv, k + 1, acc) ⟨rfl, rfl, rfl, rfl, trivial⟩ rfl rfl ⟨lN, by dsimp only; rw [htake, addC_old (hany.trans h1)]; exact hacc⟩ lN
  | none =>
   refine SC.skip (ST.thenN (SC.seq (SC.block (SC.seq (SC.region (SL.U (SU.indexAddr underlying25 sizeOf51 rfl rfl hb1 oM sL) (SL.K (SQ.elemA isAgg51 sizeOf51 rfl hrs.rd hgx) (SL.W (SO.alloc zeroValue51) ?_))))))))
   rintro _ _ _ ⟨b5, rfl, rfl, rfl⟩
   refine SL.on (SO.storeAllK 0 sizeOf51 rfl rfl rfl rfl rfl (by exact ⟨rfl, rfl, rfl, trivial⟩)) ?_
   rintro _ _ _ ⟨rfl, rfl⟩
   refine SL.nil (ST.thenN (SC.seq ?_))
   refine SC.draw [] [(0, 2), (1, 2), (2, 2), (3, 1), (4, 2), (5, 1), (6, 1), (7, 2), (8, 2), (9, 2), (10, 0), (11, 0), (12, 2)] Tryz.mixed (by kernel_rfl) ?_
   refine SP.U (i := 0) rfl (SU.move rfl) (SP.U (i := 1) rfl (SU.nilCheck rfl) (SP.U (i := 2) rfl (SU.fieldAddr underlying88 rfl sizeOf86 rfl) (SP.K (i := 3) rfl (SQ.load isAgg86 rfl (CellAt.own 2 rfl rfl)) (SP.U (i := 4) rfl (SU.fieldAddr underlying51 rfl sizeOf3 rfl) (SP.K (i := 5) rfl (SQ.load isAgg3 rfl (CellAt.own 0 rfl rfl)) (SP.K (i := 6) rfl (SQ.eq (SQ.lookupOk mty86 rfl rfl (MapAt.own 3 rfl)) (by (rw [mget_pairs, hget]; done))) ?_))))))
   refine SP.U (i := 7) rfl (SU.move rfl) (SP.U (i := 8) rfl (SU.extract rfl rfl) (SP.U (i := 9) rfl (SU.extract rfl rfl) (SP.o (i := 10) rfl (SO.alloc zeroValue51) dC (.inr (by rintro _ _ _ ⟨b6, rfl, rfl, rfl⟩; exact ⟨by exact Le.refl _, (by exact .cons _ (.refl _))⟩)) ?_)))
   rintro _ _ _ ⟨b6, rfl, rfl, rfl⟩
   refine SP.on (i := 11) rfl (SO.storeAllK 0 sizeOf51 rfl rfl rfl rfl rfl (by exact ⟨rfl, rfl, rfl, trivial⟩)) (.inr (by rintro _ _ _ ⟨rfl, rfl⟩; exact ⟨by exact Le.refl _, (by exact .cons _ (.refl _))⟩)) ?_
   rintro _ _ _ ⟨rfl, rfl⟩
   refine SP.U (i := 12) rfl (SU.assign rfl) (SP.nil (ST.thenN (SC.seq (SC.region (SL.M rfl (SL.U (SU.not rfl) (SL.nil (ST.thenN (SC.condT rfl (SC.seq ?_))))))))))
   refine SC.draw [7] [(0, 2), (1, 2), (2, 2), (3, 1), (4, 2), (5, 1), (6, 1), (7, 0)] Tryz.mixed (by kernel_rfl) ?_
   refine SP.U (i := 0) rfl (SU.move rfl) (SP.U (i := 1) rfl (SU.nilCheck rfl) (SP.U (i := 2) rfl (SU.fieldAddr underlying88 rfl sizeOf86 rfl) (SP.K (i := 3) rfl (SQ.load isAgg86 rfl (CellAt.own 3 rfl rfl)) (SP.U (i := 4) rfl (SU.fieldAddr underlying51 rfl sizeOf3 rfl) (SP.K (i := 5) rfl (SQ.load isAgg3 rfl (CellAt.own 1 rfl rfl)) (SP.K (i := 6) rfl (SQ.loadVarK 1 isAgg51 sizeOf51 rfl rfl rfl) (SP.on (i := 7) rfl (SO.mapUpdate 4 mty86 rfl rfl rfl rfl) (.inl dC) ?_)))))))
   rintro _ _ _ ⟨rfl, rfl⟩
   refine SP.nil (ST.thenN ?_)
   refine SC.draw [8, 9, 10, 11] [(0, 2), (1, 2), (2, 2), (3, 2), (4, 1), (5, 2), (6, 1), (7, 0), (8, 0), (9, 0), (10, 0), (11, 0)] Tryz.mixed (by kernel_rfl) ?_
   refine SP.U (i := 0) rfl (SU.move rfl) (SP.U (i := 1) rfl (SU.move rfl) (SP.U (i := 2) rfl (SU.nilCheck rfl) (SP.U (i := 3) rfl (SU.fieldAddr underlying88 rfl sizeOf45 rfl) (SP.K (i := 4) rfl (SQ.load isAgg45 rfl (CellAt.own 3 rfl rfl)) (SP.U (i := 5) rfl (SU.fieldAddr underlying51 rfl sizeOf3 rfl) (SP.K (i := 6) rfl (SQ.load isAgg3 rfl (CellAt.own 1 rfl rfl)) (SP.o (i := 7) rfl (SO.buildSlice sty45 rfl rfl rfl (szs_mk (by exact ⟨rfl, trivial⟩)) dC) dC (.inr (by rintro _ _ _ ⟨b45, rfl, rfl, rfl⟩; exact ⟨by exact Le.refl _, (by exact .cons _ (.refl _))⟩)) ?_)))))))
   rintro _ _ _ ⟨b45, rfl, rfl, rfl⟩
   refine SP.o (i := 8) rfl (SO.app1 2 (((acc ++ [x]).map Rc.id).flatMap encInt.enc) ((acc ++ [x]).map Rc.id).length sty45 rfl rfl rfl rfl rfl ⟨rfl, trivial⟩ (by simp [encInt]; rfl) (by simp) (by simp; omega) (by simp; omega)) dC (.inl dC) ?_
   rintro iv' _ _ ⟨rfl, rfl⟩
   refine SP.facts fun ⟨w0, hw0⟩ => ?_
   obtain ⟨q', d', rfl⟩ := rowA_form (e := encInt) (l := (acc ++ [x]).map Rc.id) (i := 2) hw0 rfl
   clear hw0 w0
   refine SP.ou (i := 9) rfl (SU.nilCheck rfl) dC (.inl dC) (SP.ou (i := 10) rfl (SU.fieldAddr underlying88 rfl sizeOf45 rfl) dC (.inl dC) (SP.on (i := 11) rfl (SO.store1 3 sizeOf45 rfl rfl rfl rfl (Nat.le_of_ble_eq_true rfl) (by rfl)) (.inl dC) ?_))
   rintro _ _ _ ⟨rfl, rfl⟩
   refine SP.nil (ST.blockN (ST.thenN (SC.region (SL.U (SU.add rfl rfl oM) (SL.M rfl (SL.nil ?_))))))
   have h1 : acc.any (fun r => r.id == cx.id) = false := by
    rw [List.any_eq_false]
    intro y hy
    have := List.find?_eq_none.1 hget y hy
    rw [← hcr.1]; exact this
   have hmp : mput (acc.map rcPair) x.id (rcv x) = (acc ++ [x]).map rcPair := by
    rw [mput_none _ _ _ (fun q hq => by
     obtain ⟨y, hy, rfl⟩ := List.mem_map.1 hq
     have := List.find?_eq_none.1 hget y hy
     simpa [rcPair] using this)]
    simp [rcPair]
   refine ST.drop (s' := rowA encInt 3 (.slice q' ((acc ++ [x]).map Rc.id).length d') ((acc ++ [x]).map Rc.id) :: pt b10 (.cells #[.map (some m), .slice q' ((acc ++ [x]).map Rc.id).length d'] 88 (0, 0)) :: mp m ((acc ++ [x]).map rcPair) :: pt b1 (.cells #[v] 27 (0, 0)) :: s) ?_ ?_
   ·rw [← hmp]; exact .cons _ (.cons _ (.refl _))
   exact ST.again (.slice q' ((acc ++ [x]).map Rc.id).length d', k + 1, acc ++ [x]) ⟨rfl, rfl, rfl, rfl, trivial⟩ rfl rfl ⟨lN, by dsimp only; rw [htake, addC_new (hany.trans h1)]; exact hacc.append ⟨hcr, trivial⟩⟩ lN
 ·refine SC.exit (ST.thenX (ST.thenX (ST.blockX (ST.thenN (SC.seq (SC.region (SL.M rfl (SL.A rfl (SL.nil (ST.thenN (SC.ret ?_)))))))))))
  have hkk : k = rs.length := oM
  have htk : (canonC l).take k = canonC l := List.take_of_length_le oM
  rw [htk] at hacc
  refine ST.freezeRow fun g2 h2 hrow => ?_
  refine ST.freeze fun g3 h3 hb => ?_
  refine ST.freezeMap fun g4 h4 hm => ?_
  refine ST.drop (s' := s) (.cons _ (.refl _)) ?_
  have hI : Ints g4 iv ((tabC l).map Cl.id) := by
   rw [show (tabC l).map Cl.id = acc.map Rc.id from all2_ids hacc]
   exact Sl.mono hrow (h3.trans h4)
  exact ST.ret1 (.inl rfl) results50 rfl ⟨rfl, hle.trans (h2.trans (h3.trans h4)), b10, m, iv, acc, rfl, h4 _ _ hb, hm, hI, hacc.mono fun _ _ => CellR.mono (h2.trans (h3.trans h4))⟩
theorem nodup_addC {acc : List Cl} {c : Cl} (h : (acc.map Cl.id).Nodup) : ((addC acc c).map Cl.id).Nodup := by
 unfold addC
 split
 ·exact h
 ·rename_i hc
  rw [List.map_append, List.nodup_append]
  refine ⟨h, by simp, fun a ha b hb e => ?_⟩
  simp at hb
  subst hb
  obtain ⟨x, hx, hxe⟩ := List.mem_map.1 ha
  apply hc
  rw [List.any_eq_true]
  exact ⟨x, hx, by simp [hxe, e]⟩
theorem nodup_foldl (l : List Cl) : ∀ acc : List Cl, (acc.map Cl.id).Nodup → ((l.foldl addC acc).map Cl.id).Nodup := by
 induction l with
 | nil => intro acc h; exact h
 | cons c r ih => intro acc h; exact ih _ (nodup_addC h)
theorem tabC_nodup (l : List Cl) : ((tabC l).map Cl.id).Nodup := nodup_foldl _ [] (by simp)
theorem mem_foldl (l : List Cl) : ∀ (acc : List Cl) (x : Cl), x ∈ l.foldl addC acc → x ∈ acc ∨ x ∈ l := by
 induction l with
 | nil => intro acc x h; exact .inl h
 | cons c r ih =>
  intro acc x h
  rcases ih _ x h with h1 | h1
  ·unfold addC at h1
   split at h1
   ·exact .inl h1
   ·rcases List.mem_append.1 h1 with h2 | h2
    ·exact .inl h2
    ·right; simp at h2; simp [h2]
  ·exact .inr (by simp [h1])
theorem tabC_mem {l : List Cl} {x : Cl} (h : x ∈ tabC l) : x ∈ canonC l := (mem_foldl _ [] x h).resolve_left (by simp)
theorem tabC_fits {l : List Cl} (h : Fits l) : Fits (tabC l) := by
 have hc := canonC_fits h
 refine ⟨?_, fun c hm => hc.2 c (tabC_mem hm)⟩
 have := foldl_add_length (canonC l) []
 unfold tabC
 have h1 := hc.1
 simp at this
 omega
theorem find_nodup {rs : List Rc} (h : (rs.map Rc.id).Nodup) {k : Nat} {r : Rc} (hk : rs[k]? = some r) : rs.find? (fun x => x.id == r.id) = some r := by
 induction rs generalizing k with
 | nil => simp at hk
 | cons y t ih =>
  simp only [List.map_cons, List.nodup_cons] at h
  cases k with
  | zero => simp at hk; subst hk; simp
  | succ k =>
   simp only [List.getElem?_cons_succ] at hk
   have hne : (y.id == r.id) = false := by
    simp only [beq_eq_false_iff_ne, ne_eq]
    intro e
    exact h.1 (by rw [e]; exact List.mem_map.2 ⟨r, List.mem_of_getElem? hk, rfl⟩)
   rw [List.find?_cons, hne]
   exact ih h.2 hk
def PredOk (E : World) (pv : Value) (p : Cl → Bool) (tl : List Cl) (g : PH) : Prop :=
 ∀ g' s c r, Le g g' → c ∈ tl → CellR g' c r → CallV Tryz.prog E pv [rcv r] g' s (fun x g'' s'' => x = vb (p c) ∧ g' = g'' ∧ s = s'')
theorem only_spec (E : World) (g : PH) (s : Own) (v pv : Value) (tl : List Cl) (p : Cl → Bool) (hv : Tab g v tl) (hnd : (tl.map Cl.id).Nodup) (hf : Fits tl) (hp : PredOk E pv p tl g) :
  Ctr Tryz.prog E 70 #[v, pv] g s (fun r g' s' => s = s' ∧ Le g g' ∧ ∃ u, r = .agg #[u] ∧ Cells g' u (tl.filter p)) := by
 obtain ⟨b, m, iv, rs, rfl, hb, hm, hI, hall⟩ := hv
 have hids := all2_ids hall
 have hlen := hall.length
 have hfl := hf.1
 have hnr : (rs.map Rc.id).Nodup := by rw [← hids]; exact hnd
 obtain ⟨q, d, rfl⟩ := hI.form
 refine Ctr.of (args := [pp b 0, pv]) func70 rfl ntmps70 (Nat.le_of_ble_eq_true rfl) ?_
 refine SC.seq (SC.region (SL.W (SO.alloc zeroValue27) ?_))
 rintro _ _ _ ⟨b4, rfl, rfl, rfl⟩
 refine SL.nil (ST.thenN (SC.seq (SC.region (SL.W (SO.alloc zeroValue27) ?_))))
 rintro _ _ _ ⟨b5, rfl, rfl, rfl⟩
 refine SL.nil (ST.thenN (SC.seq (SC.seq (SC.region (SL.M rfl (SL.U (SU.nilCheck rfl) (SL.U (SU.fieldAddr underlying88 rfl sizeOf45 rfl) (SL.K (SQ.load isAgg45 rfl (CellAt.known hb rfl)) (SL.U (SU.lenN underlying45 rfl) (SL.M rfl (SL.nil (ST.thenN (SC.block (SC.nilRow 51 3 ?_))))))))))))))
 simp only [List.length_map] at hI hb ⊢
 refine SC.loop (ι := Value × Nat × List Rc) (fun i => [(0, pp b 0), (1, pv), (4, pp b4 0), (5, pp b5 0), (11, .slice q tl.length d), (12, vi tl.length), (13, vi i.2.1)]) (fun _ => g)
  (fun i => rowA encCell 51 i.1 i.2.2 :: pt b5 (.cells #[i.1] 27 (0, 0)) :: pt b4 (.cells #[.slice none 0 0] 27 (0, 0)) :: s)
  (fun i => i.2.1 ≤ tl.length ∧ All2 (CellR g) ((tl.take i.2.1).filter p) i.2.2) (fun i => tl.length - i.2.1) (.slice none 0 0, 0, [])
  ⟨rfl, rfl, rfl, rfl, rfl, rfl, rfl, trivial⟩ rfl rfl ⟨Nat.zero_le _, by simp [All2]⟩ ?_
 rintro ⟨ov, k, acc⟩ ⟨hk, hacc⟩
 dsimp only at hk hacc ⊢
 refine SC.seq (SC.region (SL.U (SU.lss rfl rfl) (SL.nil (ST.thenN (SC.seq ?_)))))
 refine SC.ifP rfl (fun hlt => ?_) (fun hlt => ?_)
 ·have hkl : k < tl.length := oM
  have hkr : k < rs.length := oM
  have hbi := hI.based (by simp; omega)
  have hcr := hall.get (List.getElem?_eq_getElem hkl) (List.getElem?_eq_getElem hkr)
  have hmem : tl[k] ∈ tl := List.getElem_mem hkl
  have hget : mget (rs.map rcPair) tl[k].id = some (rcv rs[k]) := by
   rw [mget_pairs, ← hcr.1, find_nodup hnr (List.getElem?_eq_getElem hkr)]; rfl
  have htake : (tl.take (k + 1)).filter p = (tl.take k).filter p ++ (if p tl[k] then [tl[k]] else []) := by
   rw [List.take_succ_eq_append_getElem hkl, List.filter_append]
   simp only [List.filter_cons, List.filter_nil]
  have hgi : (tl.map Cl.id)[((k : Nat) : Int).toNat]? = some tl[k].id := by simp [hkl]
  have hal := hacc.length
  have hal2 : ((tl.take k).filter p).length ≤ k := Nat.le_trans (List.length_filter_le _ _) (by simp; omega)
  generalize htk : tl[k] = c at *
  generalize hrk : rs[k] = r at *
  refine SC.skip (ST.thenN (SC.seq (SC.block (SC.seq (SC.region (SL.U (SU.indexAddr underlying45 sizeOf3 rfl rfl hbi oM sL) (SL.K (SQ.elem1 isAgg3 rfl hI.rd hgi rfl) (SL.A rfl (SL.nil (ST.thenN (SC.seq (SC.region (SL.M rfl (SL.M rfl (SL.U (SU.nilCheck rfl) (SL.U (SU.fieldAddr underlying88 rfl sizeOf86 rfl) (SL.K (SQ.load isAgg86 rfl (CellAt.known hb rfl)) (SL.M rfl (SL.K (SQ.eq (SQ.lookup mty86 rfl rfl (MapAt.known hm)) (by (rw [hget]; done))) ?_)))))))))))))))))))
  refine SL.W (SO.callV rfl rfl (hp g _ c r (Le.refl g) hmem hcr)) ?_
  rintro _ _ _ ⟨rfl, rfl, rfl⟩
  refine SL.nil (ST.thenN ?_)
  refine SC.ifB rfl (fun hpc => ?_) (fun hpc => ?_)
  ·refine SC.draw [9, 10, 11] [(0, 2), (1, 1), (2, 2), (3, 2), (4, 2), (5, 1), (6, 2), (7, 1), (8, 0), (9, 0), (10, 0), (11, 0)] Tryz.mixed (by kernel_rfl) ?_
   refine SP.U (i := 0) rfl (SU.fieldAddr underlying27 rfl sizeOf25 rfl) (SP.K (i := 1) rfl (SQ.load isAgg25 rfl (CellAt.own 1 rfl rfl)) (SP.U (i := 2) rfl (SU.move rfl) (SP.U (i := 3) rfl (SU.nilCheck rfl) (SP.U (i := 4) rfl (SU.fieldAddr underlying88 rfl sizeOf86 rfl) (SP.K (i := 5) rfl (SQ.load isAgg86 rfl (CellAt.known hb rfl)) (SP.U (i := 6) rfl (SU.move rfl) (SP.K (i := 7) rfl (SQ.eq (SQ.lookup mty86 rfl rfl (MapAt.known hm)) (by (rw [hget]; done))) ?_)))))))
   refine SP.o (i := 8) rfl (SO.buildSlice sty25 rfl rfl rfl (szs_mk (by exact ⟨rfl, trivial⟩)) dC) dC (.inr (by rintro _ _ _ ⟨b33, rfl, rfl, rfl⟩; exact ⟨by exact Le.refl _, (by exact .cons _ (.refl _))⟩)) ?_
   rintro _ _ _ ⟨b33, rfl, rfl, rfl⟩
   refine SP.o (i := 9) rfl (SO.app1 0 ((acc ++ [r]).flatMap encCell.enc) (acc ++ [r]).length sty25 rfl rfl rfl rfl rfl ⟨rfl, rfl, rfl, trivial⟩ (by (simp [encCell]; rfl)) (by simp) lN lN) dC (.inl dC) ?_
   rintro ov' _ _ ⟨rfl, rfl⟩
   refine SP.facts fun ⟨w0, hw0⟩ => ?_
   obtain ⟨q', d', rfl⟩ := rowA_form (e := encCell) (l := acc ++ [r]) (i := 0) hw0 rfl
   clear hw0 w0
   refine SP.ou (i := 10) rfl (SU.fieldAddr underlying27 rfl sizeOf25 rfl) dC (.inl dC) (SP.on (i := 11) rfl (SO.storeAllK 1 sizeOf25 rfl rfl rfl rfl rfl (by exact ⟨rfl, trivial⟩)) (.inl dC) ?_)
   rintro _ _ _ ⟨rfl, rfl⟩
   refine SP.nil (ST.blockN (ST.thenN (SC.region (SL.U (SU.add rfl rfl oM) (SL.M rfl (SL.nil ?_))))))
   exact ST.again (.slice q' (acc ++ [r]).length d', k + 1, acc ++ [r]) ⟨rfl, rfl, rfl, rfl, rfl, rfl, rfl, trivial⟩ rfl rfl ⟨lN, by dsimp only; rw [htake, hpc]; exact hacc.append ⟨hcr, trivial⟩⟩ lN
  ·refine SC.skip (ST.blockN (ST.thenN (SC.region (SL.U (SU.add rfl rfl oM) (SL.M rfl (SL.nil ?_))))))
   exact ST.again (ov, k + 1, acc) ⟨rfl, rfl, rfl, rfl, rfl, rfl, rfl, trivial⟩ rfl rfl ⟨lN, by dsimp only; rw [htake, hpc]; simpa using hacc⟩ lN
 ·have hkk : tl.take k = tl := List.take_of_length_le oM
  rw [hkk] at hacc
  refine SC.exit (ST.thenX (ST.thenX (ST.blockX (ST.thenN (SC.seq (SC.region (SL.freezeRow fun g2 hle2 hs2 => ?_)))))))
  obtain ⟨q2, d2, rfl⟩ := hs2.form
  refine SL.K (SQ.loadVarK 0 isAgg27 sizeOf27 rfl rfl rfl) (SL.on (SO.storeAllK 1 sizeOf27 rfl rfl rfl rfl rfl (by exact ⟨rfl, trivial⟩)) ?_)
  rintro _ _ _ ⟨rfl, rfl⟩
  refine SL.nil (ST.thenN (SC.ret ?_))
  exact ST.retCD 1 s (.inl rfl) results70 rfl isAgg27 sizeOf27 rfl rfl (.cons _ (.cons _ (.refl _))) ⟨rfl, hle2, _, rfl, acc, hs2, hacc.mono fun _ _ => CellR.mono hle2⟩
end Go.Proofs.YtkdibcicncjpdaaGreat
namespace Go.Sy
open Go Go.MapKept
def unV (q : Value × Value) : Int × Value := (match q.1 with | .int _ z => z | _ => 0, q.2)
theorem unV_pairs (l : List (Int × Value)) : (l.map pairV).map unV = l := by
 rw [List.map_map]
 conv => rhs; rw [← List.map_id l]
 rfl
theorem length_le_of_nodup {l m : List Nat} (hm : m.Nodup) (hl : l.Nodup) (h : ∀ x ∈ m, x ∈ l) : m.length ≤ l.length := by
 have hp : (l.filter (fun x => decide (x ∈ m))).Perm m := (List.perm_ext_iff_of_nodup (hl.filter _) hm).2 fun x => by
  rw [List.mem_filter]
  exact ⟨fun h1 => by simpa using h1.2, fun h1 => ⟨h x h1, by simpa using h1⟩⟩
 have := hp.length_eq
 have := List.length_filter_le (fun x => decide (x ∈ m)) l
 omega
structure RVis (l : List (Int × Value)) (es : Array MapEntry) (vis : List MapEntry) (vl : List (Int × Value)) : Prop where
 ok : Vis es vis
 eq : vis.map entV = vl.map pairV
theorem RVis.nil (l : List (Int × Value)) (es : Array MapEntry) : RVis l es [] [] := ⟨⟨by simp, by simp⟩, rfl⟩
theorem RVis.len {l : List (Int × Value)} {es : Array MapEntry} {clk : Nat} {vis : List MapEntry} {vl : List (Int × Value)} (h : RVis l es vis vl) (hm : MapI l es clk) : vl.length ≤ l.length := by
 have h1 : vis.length = vl.length := by have := congrArg List.length h.eq; simpa using this
 have h2 : es.toList.length = l.length := by have := congrArg List.length hm.1; simpa using this
 have h3 := length_le_of_nodup (l := es.toList.map (·.born)) h.ok.nodup hm.2.2.1 (fun x hx => by
  obtain ⟨e, he, rfl⟩ := List.mem_map.1 hx
  exact List.mem_map.2 ⟨e, h.ok.sub e he, rfl⟩)
 simp at h3
 simp at h2
 omega
theorem RVis.all {l : List (Int × Value)} {es : Array MapEntry} {clk : Nat} {vis : List MapEntry} {vl : List (Int × Value)} (h : RVis l es vis vl) (hm : MapI l es clk) (ha : ∀ e ∈ es.toList, e ∈ vis) : vl.Perm l := by
 have hnv : vis.Nodup := List.Pairwise.of_map (fun e => e.born) (fun a b hab hne => hab (by rw [hne])) h.ok.nodup
 have hne : es.toList.Nodup := List.Pairwise.of_map (fun e => e.born) (fun a b hab hne => hab (by rw [hne])) hm.2.2.1
 have hp : vis.Perm es.toList := (List.perm_ext_iff_of_nodup hnv hne).2 fun e => ⟨h.ok.sub e, ha e⟩
 have h1 := (hp.map entV).map unV
 rw [h.eq, hm.1, unV_pairs, unV_pairs] at h1
 exact h1
section
variable {P : Program} {N : Nat} {E : World} {f : Fr} {g : PH} {s : Own} {dst : Option Tmp} {ty : TypeId} {pos : String} {af : Array Edge} {gd : Option (Nat × Bool)}
variable {m r clk : Nat} {es : Array MapEntry} {vis : List MapEntry} {x : Operand} {l vl : List (Int × Value)}
theorem SO.nextP (i : Nat) (hx : ev f x = some (pp r 0)) (hi : s[i]? = some (iter r m es clk vis)) (hm : g m = some (.map es clk)) (hI : MapI l es clk) (hv : RVis l es vis vl) :
  SO P N E ⟨dst, .next x false, ty, pos, af, gd⟩ f g s fun u g' s' => g = g' ∧
   ((u = .tuple #[.bool false] ∧ s = s' ∧ vl.Perm l) ∨ ∃ e p, e ∈ es.toList ∧ p ∈ l ∧ e.key = vi p.1 ∧ e.val = p.2 ∧ RVis l es (vis ++ [e]) (vl ++ [p]) ∧ u = .tuple #[.bool true, vi p.1, p.2] ∧ s' = s.set i (iter r m es clk (vis ++ [e]))) := by
 refine SO.mono (SO.next i hx hi hm hI.2 hv.ok) ?_
 rintro u g' s' ⟨rfl, h⟩
 refine ⟨rfl, ?_⟩
 rcases h with ⟨h1, h2, h3⟩ | ⟨e, h1, h2, h3, h4⟩
 ·exact .inl ⟨h1, h2, hv.all hI h3⟩
 ·have hp : entV e ∈ l.map pairV := by rw [← hI.1]; exact List.mem_map.2 ⟨e, h1, rfl⟩
  obtain ⟨p, hp1, hp2⟩ := List.mem_map.1 hp
  simp only [entV, pairV, Prod.mk.injEq] at hp2
  refine .inr ⟨e, p, h1, hp1, hp2.1.symm, hp2.2.symm, ⟨⟨?_, ?_⟩, ?_⟩, by rw [h3, hp2.1, hp2.2], h4⟩
  ·intro a ha
   rcases List.mem_append.1 ha with h5 | h5
   ·exact hv.ok.sub a h5
   ·simp at h5; rw [h5]; exact h1
  ·rw [List.map_append, List.nodup_append]
   refine ⟨hv.ok.nodup, by simp, fun a ha b hb hab => ?_⟩
   simp at hb
   rw [hab, hb] at ha
   exact h2 ha
  ·rw [List.map_append, List.map_append, hv.eq]
   simp [entV, pairV, hp2.1, hp2.2]
theorem SQ.entryP {e : MapEntry} {p : Int × Value} (i : Nat) (hx : ev f x = some (pp r 0)) (hi : s[i]? = some (iter r m es clk (vis ++ [e]))) (hm : g m = some (.map es clk)) (hI : MapI l es clk) (he : e ∈ es.toList) (hk : e.key = vi p.1) (hv : e.val = p.2) :
  SQ P N E ⟨dst, .entry x, ty, pos, af, gd⟩ f g s (.tuple #[vi p.1, p.2]) := by
 have := SQ.entry (P := P) (N := N) (E := E) (f := f) (s := s) (dst := dst) (ty := ty) (pos := pos) (af := af) (gd := gd) i hx hi hm hI.2 he
 rw [hk, hv] at this
 exact this
end
def SetI (l : List (Int × Value)) (q : Int → Bool) : Prop := ∀ k, mget l k = if q k then some (vb true) else none
theorem SetI.nil : SetI [] (fun _ => false) := fun _ => rfl
theorem SetI.put {l : List (Int × Value)} {q : Int → Bool} (h : SetI l q) (k : Int) : SetI (mput l k (vb true)) (fun j => decide (j = k) || q j) := fun j => by
 rw [mget_mput]
 by_cases hj : j = k
 ·simp [hj]
 ·simp [hj, h j]
theorem SetI.congr {l : List (Int × Value)} {q q' : Int → Bool} (h : SetI l q) (he : ∀ k, q k = q' k) : SetI l q' := fun k => by rw [← he]; exact h k
theorem SetI.get {l : List (Int × Value)} {q : Int → Bool} (h : SetI l q) (k : Int) : (mget l k).getD (vb false) = vb (q k) := by
 rw [h k]
 cases q k <;> rfl
end Go.Sy
namespace Go.Proofs.YtkdibcicncjpdaaGreat
open _root_.Go.Proofs.Tryz _root_.Go.Proofs.YtkdibcicncjpdaaGreat.Tryz
open Go Go.Sy Go.Pl Go.Proofs
set_option maxRecDepth 100000
theorem filter_fits {l : List Cl} (p : Cl → Bool) (h : Fits l) : Fits (l.filter p) :=
 ⟨Nat.lt_of_le_of_lt (List.length_filter_le _ _) h.1, fun c hc => h.2 c (List.mem_filter.1 hc).1⟩
theorem names_spec (E : World) (g : PH) (s : Own) (v pv : Value) (tl : List Cl) (p : Cl → Bool) (hv : Tab g v tl) (hnd : (tl.map Cl.id).Nodup) (hf : Fits tl) (hp : PredOk E pv p tl g) :
  Ctr Tryz.prog E 81 #[v, pv] g s (fun r g' s' => s = s' ∧ Le g g' ∧ Ints g' r ((tl.filter p).map Cl.id)) := by
 have hff := (filter_fits p hf).1
 refine Ctr.of (args := [v, pv]) func81 rfl ntmps81 (Nat.le_of_ble_eq_true rfl) ?_
 refine SC.seq (SC.region (SL.A rfl (SL.nil (ST.thenN (SC.seq (SC.region (SL.A rfl (SL.nil (ST.thenN (SC.seq (SC.seq (SC.region (SL.M rfl (SL.M rfl (SL.W (SO.call call70 rfl (only_spec E g _ v pv tl p hv hnd hf hp)) ?_)))))))))))))))
 rintro _ g1 _ ⟨rfl, hle, u, rfl, rs, hrs, hall⟩
 obtain ⟨q, d, rfl⟩ := hrs.form
 have hlen := hall.length
 refine SL.U (SU.field underlying27 rfl isAgg25 rfl rfl) (SL.U (SU.lenN underlying25 rfl) (SL.M rfl (SL.nil (ST.thenN (SC.block ?_)))))
 have hids := all2_ids hall
 refine SC.nilRow 3 1 ?_
 refine SC.loop (ι := Value × Nat) (fun i => [(5, i.1), (11, .slice q rs.length d), (12, vi rs.length), (13, vi i.2)]) (fun _ => g1)
  (fun i => rowA encInt 3 i.1 ((rs.take i.2).map Rc.id) :: s)
  (fun i => i.2 ≤ rs.length) (fun i => rs.length - i.2) (.slice none 0 0, 0)
  ⟨rfl, rfl, rfl, rfl, trivial⟩ rfl rfl (Nat.zero_le _) ?_
 rintro ⟨ov, k⟩ hk
 dsimp only at hk ⊢
 refine SC.seq (SC.region (SL.U (SU.lss rfl rfl) (SL.nil (ST.thenN (SC.seq ?_)))))
 refine SC.ifP rfl (fun hlt => ?_) (fun hlt => ?_)
 ·have hkr : k < rs.length := oM
  have hb1 := hrs.based oM
  have htake : (rs.take (k + 1)).map Rc.id = (rs.take k).map Rc.id ++ [rs[k].id] := by rw [List.take_succ_eq_append_getElem hkr, List.map_append]; rfl
  have hgx : rs[((k : Nat) : Int).toNat]? = some rs[k] := List.getElem?_eq_getElem hkr
  have htl : ((rs.take k).map Rc.id).length = k := by simp; omega
  generalize hx : rs[k] = x at *
  refine SC.skip (ST.thenN (SC.seq (SC.block (SC.seq (SC.region (SL.U (SU.indexAddr underlying25 sizeOf51 rfl rfl hb1 oM sL) (SL.K (SQ.elemA isAgg51 sizeOf51 rfl hrs.rd hgx) (SL.W (SO.alloc zeroValue51) ?_))))))))
  rintro _ _ _ ⟨b7, rfl, rfl, rfl⟩
  refine SL.on (SO.storeAllK 0 sizeOf51 rfl rfl rfl rfl rfl (by exact ⟨rfl, rfl, rfl, trivial⟩)) ?_
  rintro _ _ _ ⟨rfl, rfl⟩
  refine SL.nil (ST.thenN (SC.region (SL.M rfl (SL.U (SU.fieldAddr underlying51 rfl sizeOf3 rfl) (SL.K (SQ.load isAgg3 rfl (CellAt.own 0 rfl rfl)) (SL.W (SO.buildSlice sty45 rfl rfl rfl (szs_mk (by exact ⟨rfl, trivial⟩)) dC) ?_))))))
  rintro _ _ _ ⟨b20, rfl, rfl, rfl⟩
  refine SL.W (SO.app1 1 (((rs.take (k + 1)).map Rc.id).flatMap encInt.enc) ((rs.take (k + 1)).map Rc.id).length sty45 rfl rfl rfl rfl rfl ⟨rfl, trivial⟩ (by rw [htake]; simp [encInt]; rfl) (by rw [htake]; simp) lN lN) ?_
  rintro ov' _ _ ⟨rfl, rfl⟩
  refine SL.A rfl (SL.nil (ST.blockN (ST.thenN (SC.region (SL.U (SU.add rfl rfl oM) (SL.M rfl (SL.nil (ST.drop (s' := rowA encInt 3 ov' ((rs.take (k + 1)).map Rc.id) :: s) (.cons _ (.refl _)) ?_))))))))
  exact ST.again (ov', k + 1) ⟨rfl, rfl, rfl, rfl, trivial⟩ rfl rfl lN lN
 ·refine SC.exit (ST.thenX (ST.thenX (ST.blockX (ST.thenN (SC.seq (SC.region (SL.M rfl (SL.A rfl (SL.nil (ST.thenN (SC.ret ?_)))))))))))
  have hkk : rs.take k = rs := List.take_of_length_le oM
  rw [hkk]
  refine ST.freezeRow fun g2 h2 hrow => ?_
  exact ST.ret1 (.inl rfl) results81 rfl ⟨rfl, hle.trans h2, by rw [hids]; exact hrow⟩
def PredS (E : World) (pv : Value) (q : Side → Bool) (g : PH) : Prop :=
 ∀ g' s a, Le g g' → CallV Tryz.prog E pv [.agg (encSide.enc a).toArray] g' s (fun x g'' s'' => x = vb (q a) ∧ g' = g'' ∧ s = s'')
theorem indexFuncS (E : World) (g : PH) (s : Own) (v : Value) (kn : FuncId) (kc : Array Value) (l : List Side) (q : Side → Bool) (hv : SlA encSide g v l) (hl : l.length < 1099511627776) (hp : PredS E (.func (.func kn) #[] kc) q g) :
  Ctr Tryz.prog E 136 #[v, .func (.func kn) #[] kc] g s (fun r g' s' => (∃ n : Int, r = vi n ∧ decide (n ≥ 0) = l.any q) ∧ g = g' ∧ s = s') := by
 obtain ⟨p, c, rfl⟩ := hv.form
 refine Ctr.of (args := [.slice p l.length c, .func (.func kn) #[] kc]) func136 rfl ntmps136 (Nat.le_of_ble_eq_true rfl) ?_
 refine SC.seq (SC.region (SL.A rfl (SL.nil (ST.thenN (SC.seq (SC.seq (SC.region (SL.M rfl (SL.U (SU.lenN underlying49 rfl) (SL.M rfl (SL.nil (ST.thenN (SC.block ?_)))))))))))))
 refine SC.loop (ι := Nat) (fun k => [(0, .slice p l.length c), (1, .func (.func kn) #[] kc), (7, vi l.length), (8, vi k)]) (fun _ => g) (fun _ => s) (fun k => k ≤ l.length ∧ (l.take k).any q = false) (fun k => l.length - k) 0
  ⟨rfl, rfl, rfl, rfl, trivial⟩ rfl rfl ⟨Nat.zero_le _, by simp⟩ ?_
 rintro k ⟨hk, hno⟩
 refine SC.seq (SC.region (SL.U (SU.lss rfl rfl) (SL.nil (ST.thenN (SC.seq ?_)))))
 refine SC.ifP rfl (fun hlt => ?_) (fun hlt => ?_)
 ·have hkl : k < l.length := oM
  have hb1 := hv.based oM
  refine SC.skip (ST.thenN (SC.seq (SC.block (SC.seq (SC.region (SL.M rfl (SL.A rfl (SL.nil (ST.thenN (SC.seq (SC.region (SL.M rfl (SL.M rfl (SL.M rfl (SL.U (SU.indexAddr underlying49 sizeOf55 rfl rfl hb1 oM sL) ?_)))))))))))))))
  refine SL.q (SQ.elemA isAgg55 sizeOf55 rfl hv.rd (List.getElem?_eq_getElem hkl)) dC ?_
  refine SL.W (SO.callV rfl rfl (hp g _ l[k] (Le.refl g))) ?_
  rintro _ _ _ ⟨rfl, rfl, rfl⟩
  refine SL.nil (ST.thenN ?_)
  refine SC.ifB rfl (fun hq => ?_) (fun hq => ?_)
  ·refine SC.seq (SC.region (SL.M rfl (SL.A rfl (SL.nil (ST.thenN (SC.ret (ST.blockR (ST.thenR (ST.thenR (ST.blockR (ST.thenR ?_)))))))))))
   have hany : l.any q = true := List.any_eq_true.2 ⟨l[k], List.getElem_mem hkl, hq⟩
   exact ST.ret1 (.inl rfl) results136 rfl ⟨⟨k, rfl, by rw [hany]; simp⟩, rfl, rfl⟩
  ·refine SC.skip (ST.blockN (ST.thenN (SC.region (SL.U (SU.add rfl rfl oM) (SL.M rfl (SL.nil ?_))))))
   exact ST.again (k + 1) ⟨rfl, rfl, rfl, rfl, trivial⟩ rfl rfl ⟨oM, by rw [List.take_succ_eq_append_getElem hkl, List.any_append, hno]; simpa using hq⟩ oM
 ·refine SC.exit (ST.thenX (ST.thenX (ST.blockX (ST.thenN (SC.seq (SC.region (SL.A rfl (SL.nil (ST.thenN (SC.ret ?_))))))))))
  have hkk : l.take k = l := List.take_of_length_le oM
  rw [hkk] at hno
  exact ST.ret1 (.inl rfl) results136 rfl ⟨⟨-1, rfl, by rw [hno]; rfl⟩, rfl, rfl⟩
theorem containsFuncS (E : World) (g : PH) (s : Own) (v : Value) (kn : FuncId) (kc : Array Value) (l : List Side) (q : Side → Bool) (hv : SlA encSide g v l) (hl : l.length < 1099511627776) (hp : PredS E (.func (.func kn) #[] kc) q g) :
  Ctr Tryz.prog E 110 #[v, .func (.func kn) #[] kc] g s (fun r g' s' => r = vb (l.any q) ∧ g = g' ∧ s = s') := by
 refine Ctr.of (args := [v, .func (.func kn) #[] kc]) func110 rfl ntmps110 (Nat.le_of_ble_eq_true rfl) ?_
 refine SC.seq (SC.region (SL.A rfl (SL.nil (ST.thenN (SC.seq (SC.region (SL.M rfl (SL.M rfl (SL.W (SO.call call136 rfl (indexFuncS E g _ v kn kc l q hv hl hp)) ?_)))))))))
 rintro _ _ _ ⟨⟨n, rfl, hn⟩, rfl, rfl⟩
 refine SL.U (SU.geq rfl rfl) (SL.A rfl (SL.nil (ST.thenN (SC.ret ?_))))
 exact ST.ret1 (.inl rfl) results110 rfl ⟨by rw [hn], rfl, rfl⟩
def hasC (c : Cl) (id : Int) : Bool := c.sides.any fun x => decide (x.cell = id)
theorem hasP (E : World) (g : PH) (b : Nat) (id : Int) (hb : g b = some (.cells #[vi id] 3 (0, 0))) : PredS E (.func (.func 111) #[] #[pp b 0]) (fun x => decide (x.cell = id)) g := by
 intro g s a hle
 refine CallV.mk (cap := [pp b 0]) call111 ?_
 have hb' := hle _ _ hb
 refine Ctr.of (args := [.agg (encSide.enc a).toArray, pp b 0]) func111 rfl ntmps111 (Nat.le_of_ble_eq_true rfl) ?_
 refine SC.seq (SC.region (SL.W (SO.box rfl) ?_))
 rintro _ _ _ ⟨b2, rfl, rfl, rfl⟩
 refine SL.A rfl (SL.nil (ST.thenN (SC.seq (SC.region (SL.U (SU.fieldAddr underlying55 rfl sizeOf3 rfl) (SL.K (SQ.load isAgg3 rfl (CellAt.own 0 rfl rfl)) (SL.K (SQ.load isAgg3 rfl (CellAt.known hb' rfl)) (SL.U (SU.eql rfl rfl) (SL.A rfl (SL.nil (ST.thenN (SC.ret (ST.drop (s' := s) (.cons _ (.refl _)) ?_)))))))))))))
 exact ST.ret1 (.inl rfl) results111 rfl ⟨rfl, rfl, rfl⟩
theorem has_spec (E : World) (g : PH) (s : Own) (c : Cl) (r : Rc) (id : Int) (hc : CellR g c r) (hl : c.sides.length < 1099511627776) :
  Ctr Tryz.prog E 84 #[rcv r, vi id] g s (fun r g' s' => r = vb (hasC c id) ∧ g = g' ∧ s = s') := by
 refine Ctr.of (args := [rcv r, vi id]) func84 rfl ntmps84 (Nat.le_of_ble_eq_true rfl) ?_
 refine SC.seq (SC.region (SL.W (SO.box rfl) ?_))
 rintro _ _ _ ⟨b2, rfl, rfl, rfl⟩
 refine SL.W (SO.box rfl) ?_
 rintro _ _ _ ⟨b3, rfl, rfl, rfl⟩
 refine SL.freeze fun g1 hle hb => ?_
 refine SL.A rfl (SL.nil (ST.thenN (SC.seq (SC.region (SL.U (SU.fieldAddr underlying51 rfl sizeOf49 rfl) (SL.K (SQ.load isAgg49 rfl (CellAt.own 0 rfl rfl)) (SL.U (SU.mkFunc rfl) (SL.W (SO.call call110 rfl (containsFuncS E g1 _ _ 111 #[pp b3 0] c.sides _ (hc.2.2.mono hle) hl (hasP E g1 b3 id hb))) ?_))))))))
 rintro _ _ _ ⟨rfl, rfl, rfl⟩
 refine SL.A rfl (SL.nil (ST.thenN (SC.ret ?_)))
 refine ST.drop (s' := s) (.cons _ (.refl _)) (ST.less hle ?_)
 exact ST.ret1 (.inl rfl) results84 rfl ⟨rfl, rfl, rfl⟩
theorem aboveP (E : World) (g : PH) (b : Nat) (id : Int) (tl : List Cl) (hf : Fits tl) (hb : g b = some (.cells #[vi id] 3 (0, 0))) : PredOk E (.func (.func 83) #[] #[pp b 0]) (fun c => hasC c id) tl g := by
 intro g s c r hle hm hc
 refine CallV.mk (cap := [pp b 0]) call83 ?_
 have hb' := hle _ _ hb
 refine Ctr.of (args := [rcv r, pp b 0]) func83 rfl ntmps83 (Nat.le_of_ble_eq_true rfl) ?_
 refine SC.seq (SC.region (SL.W (SO.box rfl) ?_))
 rintro _ _ _ ⟨b2, rfl, rfl, rfl⟩
 refine SL.A rfl (SL.nil (ST.thenN (SC.seq (SC.region (SL.K (SQ.loadVarK 0 isAgg51 sizeOf51 rfl rfl rfl) (SL.K (SQ.load isAgg3 rfl (CellAt.known hb' rfl)) (SL.W (SO.call call84 rfl (has_spec E g _ c r id hc (hf.2 c hm))) ?_)))))))
 rintro _ _ _ ⟨rfl, rfl, rfl⟩
 refine SL.A rfl (SL.nil (ST.thenN (SC.ret (ST.drop (s' := s) (.cons _ (.refl _)) ?_))))
 exact ST.ret1 (.inl rfl) results83 rfl ⟨rfl, rfl, rfl⟩
def aboveC (l : List Cl) (id : Int) : List Int := ((tabC l).filter fun c => hasC c id).map Cl.id
theorem above_spec (E : World) (g : PH) (s : Own) (v : Value) (l : List Cl) (id : Int) (hv : Cells g v l) (hf : Fits l) :
  Ctr Tryz.prog E 37 #[.agg #[v], vi id] g s (fun r g' s' => s = s' ∧ Le g g' ∧ Ints g' r (aboveC l id)) := by
 refine Ctr.of (args := [.agg #[v], vi id]) func37 rfl ntmps37 (Nat.le_of_ble_eq_true rfl) ?_
 refine SC.seq (SC.region (SL.W (SO.box rfl) ?_))
 rintro _ _ _ ⟨b2, rfl, rfl, rfl⟩
 refine SL.W (SO.box rfl) ?_
 rintro _ _ _ ⟨b3, rfl, rfl, rfl⟩
 refine SL.freeze fun g1 hle hb => ?_
 refine SL.A rfl (SL.nil (ST.thenN (SC.seq (SC.region (SL.K (SQ.loadVarK 0 isAgg27 sizeOf27 rfl rfl rfl) (SL.W (SO.call call50 rfl (of_spec E g1 _ v l (hv.mono hle) hf)) ?_))))))
 rintro tv g2 _ ⟨rfl, hle2, ht⟩
 refine SL.U (SU.mkFunc rfl) (SL.W (SO.call call81 rfl (names_spec E g2 _ tv _ _ _ ht (tabC_nodup l) (tabC_fits hf) (aboveP E g2 b3 id _ (tabC_fits hf) (hle2 _ _ hb)))) ?_)
 rintro r8 g3 _ ⟨rfl, hle3, hr⟩
 refine SL.A rfl (SL.nil (ST.thenN (SC.ret (ST.drop (s' := s) (.cons _ (.refl _)) ?_))))
 exact ST.ret1 (.inl rfl) results37 rfl ⟨rfl, hle.trans (hle2.trans hle3), hr⟩
theorem Tryz.mty96 : MTy Tryz.prog 96 3 4 (vb false) := ⟨underlying96, underlying3, zeroValue4⟩
def zeroR : Rc := ⟨0, 0, none, 0, 0⟩
def zeroC : Cl := ⟨0, 0, []⟩
theorem all2_find {g : PH} {tl : List Cl} {rs : List Rc} (h : All2 (CellR g) tl rs) (k : Int) : (tl.find? (fun c => decide (c.id = k)) = none ∧ mget (rs.map rcPair) k = none) ∨ ∃ c r, tl.find? (fun c => decide (c.id = k)) = some c ∧ mget (rs.map rcPair) k = some (rcv r) ∧ CellR g c r := by
 induction tl generalizing rs with
 | nil => cases rs with | nil => exact .inl ⟨rfl, rfl⟩ | cons _ _ => exact h.elim
 | cons c t ih =>
  cases rs with
  | nil => exact h.elim
  | cons r rs =>
   simp only [List.map_cons, rcPair, mget_cons, List.find?_cons]
   by_cases hk : c.id = k
   ·right
    have : k = r.id := by rw [h.1.1, hk]
    exact ⟨c, r, by simp [hk], by rw [if_pos this], h.1⟩
   ·have hk2 : ¬ k = r.id := by rw [h.1.1]; exact fun e => hk e.symm
    simp only [hk, decide_false, if_neg hk2]
    exact ih h.2
theorem all2_look {g : PH} {tl : List Cl} {rs : List Rc} (h : All2 (CellR g) tl rs) (hw : ∀ g, CellR g zeroC zeroR) (k : Int) : ∃ r, (mget (rs.map rcPair) k).getD (.agg #[vi 0, vi 0, .slice none 0 0]) = rcv r ∧ (mget (rs.map rcPair) k).isSome = (tl.find? (fun c => decide (c.id = k))).isSome ∧ CellR g ((tl.find? (fun c => decide (c.id = k))).getD zeroC) r := by
 rcases all2_find h k with ⟨h1, h2⟩ | ⟨c, r, h1, h2, h3⟩
 ·exact ⟨zeroR, by rw [h2]; rfl, by rw [h1, h2]; rfl, by rw [h1]; exact hw g⟩
 ·exact ⟨r, by rw [h2]; rfl, by rw [h1, h2]; rfl, by rw [h1]; exact h3⟩
theorem zeroCR (g : PH) : CellR g zeroC zeroR := ⟨rfl, rfl, Sl.nil g _⟩
def findC (l : List Cl) (id : Int) : Option Cl := (tabC l).find? fun c => decide (c.id = id)
theorem find_spec (E : World) (g : PH) (s : Own) (v : Value) (l : List Cl) (id : Int) (hv : Cells g v l) (hf : Fits l) :
  Ctr Tryz.prog E 31 #[.agg #[v], vi id] g s (fun r g' s' => s = s' ∧ Le g g' ∧ ∃ x, r = .tuple #[rcv x, vb (findC l id).isSome] ∧ CellR g' ((findC l id).getD zeroC) x) := by
 refine Ctr.of (args := [.agg #[v], vi id]) func31 rfl ntmps31 (Nat.le_of_ble_eq_true rfl) ?_
 refine SC.seq (SC.region (SL.W (SO.box rfl) ?_))
 rintro _ _ _ ⟨b2, rfl, rfl, rfl⟩
 refine SL.W (SO.alloc zeroValue51) ?_
 rintro _ _ _ ⟨b4, rfl, rfl, rfl⟩
 refine SL.A rfl (SL.nil (ST.thenN (SC.seq (SC.region (SL.K (SQ.loadVarK 1 isAgg27 sizeOf27 rfl rfl rfl) (SL.W (SO.call call50 rfl (of_spec E g _ v l hv hf)) ?_))))))
 rintro tv g1 _ ⟨rfl, hle, ht⟩
 obtain ⟨b, m, iv, rs, rfl, hb, hm, hI, hall⟩ := ht
 obtain ⟨x, hx1, hx2, hx3⟩ := all2_look hall zeroCR id
 refine SL.U (SU.nilCheck rfl) (SL.U (SU.fieldAddr underlying88 rfl sizeOf86 rfl) (SL.K (SQ.load isAgg86 rfl (CellAt.known hb rfl)) (SL.M rfl (SL.K (SQ.eq (v' := .tuple #[rcv x, vb (findC l id).isSome]) (SQ.lookupOk mty86 rfl rfl (MapAt.known hm)) (by rw [hx1, hx2]; rfl)) ?_))))
 refine SL.M rfl (SL.U (SU.extract rfl rfl) (SL.U (SU.extract rfl rfl) (SL.W (SO.alloc zeroValue51) ?_)))
 rintro _ _ _ ⟨b6, rfl, rfl, rfl⟩
 refine SL.on (SO.storeAllK 0 sizeOf51 rfl rfl rfl rfl rfl (by exact ⟨rfl, rfl, rfl, trivial⟩)) ?_
 rintro _ _ _ ⟨rfl, rfl⟩
 refine SL.A rfl (SL.nil (ST.thenN (SC.seq (SC.region (SL.K (SQ.loadVarK 0 isAgg51 sizeOf51 rfl rfl rfl) (SL.M rfl (SL.on (SO.storeAllK 1 sizeOf51 rfl rfl rfl rfl rfl (by exact ⟨rfl, rfl, rfl, trivial⟩)) ?_)))))))
 rintro _ _ _ ⟨rfl, rfl⟩
 refine SL.A rfl (SL.nil (ST.thenN (SC.ret ?_)))
 exact ST.retCD1 1 s (.inl rfl) results31 rfl rfl isAgg51 sizeOf51 rfl rfl (.cons _ (.cons _ (.cons _ (.refl _)))) ⟨rfl, hle, x, rfl, hx3⟩
def sideOf (tl : List Cl) (k : Int) : Bool := tl.any fun c => hasC c k
def topsC (l : List Cl) : List Int := ((tabC l).filter fun c => !sideOf (tabC l) c.id).map Cl.id
theorem topsP (E : World) (g : PH) (b m : Nat) (sm : List (Int × Value)) (q : Int → Bool) (tl : List Cl) (hb : g b = some (.cells #[.map (some m)] 96 (0, 0))) (hm : Mp g m sm) (hs : SetI sm q) : PredOk E (.func (.func 82) #[] #[pp b 0]) (fun c => !q c.id) tl g := by
 intro g s c r hle hmem hc
 refine CallV.mk (cap := [pp b 0]) call82 ?_
 have hb' := hle _ _ hb
 have hm' := hm.mono hle
 refine Ctr.of (args := [rcv r, pp b 0]) func82 rfl ntmps82 (Nat.le_of_ble_eq_true rfl) ?_
 refine SC.seq (SC.region (SL.W (SO.box rfl) ?_))
 rintro _ _ _ ⟨b2, rfl, rfl, rfl⟩
 refine SL.A rfl (SL.nil (ST.thenN (SC.seq (SC.region (SL.K (SQ.load isAgg96 rfl (CellAt.known hb' rfl)) (SL.U (SU.fieldAddr underlying51 rfl sizeOf3 rfl) (SL.K (SQ.load isAgg3 rfl (CellAt.own 0 rfl rfl)) (SL.K (SQ.eq (v' := vb (q c.id)) (SQ.lookup mty96 rfl rfl (MapAt.known hm')) (by rw [← hc.1]; exact hs.get _)) ?_))))))))
 refine SL.U (SU.not rfl) (SL.A rfl (SL.nil (ST.thenN (SC.ret (ST.drop (s' := s) (.cons _ (.refl _)) ?_)))))
 exact ST.ret1 (.inl rfl) results82 rfl ⟨rfl, rfl, rfl⟩
theorem all2_mem {g : PH} {tl : List Cl} {rs : List Rc} (h : All2 (CellR g) tl rs) {r : Rc} (hr : r ∈ rs) : ∃ c, c ∈ tl ∧ CellR g c r := by
 obtain ⟨i, hi, rfl⟩ := List.getElem_of_mem hr
 have hl := h.length
 have hi' : i < tl.length := oM
 exact ⟨tl[i], List.getElem_mem hi', h.get (List.getElem?_eq_getElem hi') (List.getElem?_eq_getElem hi)⟩
theorem nodup_id {tl : List Cl} (h : (tl.map Cl.id).Nodup) {a b : Cl} (ha : a ∈ tl) (hb : b ∈ tl) (e : a.id = b.id) : a = b := by
 induction tl with
 | nil => simp at ha
 | cons c t ih =>
  simp only [List.map_cons, List.nodup_cons] at h
  rcases List.mem_cons.1 ha with rfl | ha' <;> rcases List.mem_cons.1 hb with rfl | hb'
  ·rfl
  ·exact absurd (List.mem_map.2 ⟨b, hb', e.symm⟩) h.1
  ·exact absurd (List.mem_map.2 ⟨a, ha', e⟩) h.1
  ·exact ih h.2 ha' hb'
theorem perm_of_ids {vc tl : List Cl} (hs : ∀ c ∈ vc, c ∈ tl) (hp : (vc.map Cl.id).Perm (tl.map Cl.id)) (hn : (tl.map Cl.id).Nodup) : vc.Perm tl := by
 have hn2 : (vc.map Cl.id).Nodup := hp.symm.nodup hn
 refine (List.perm_ext_iff_of_nodup (List.Pairwise.of_map Cl.id (fun a b hab e => hab (by rw [e])) hn2) (List.Pairwise.of_map Cl.id (fun a b hab e => hab (by rw [e])) hn)).2 fun c => ⟨hs c, fun hc => ?_⟩
 obtain ⟨c', h1, h2⟩ := List.mem_map.1 (hp.symm.subset (List.mem_map.2 ⟨c, hc, rfl⟩))
 rw [← nodup_id hn (hs c' h1) hc h2]
 exact h1
theorem visited_perm {g : PH} {vl : List (Int × Value)} {rs : List Rc} {vc tl : List Cl} (hv : vl.map Prod.fst = vc.map Cl.id) (hs : ∀ c ∈ vc, c ∈ tl) (hn : (tl.map Cl.id).Nodup) (hall : All2 (CellR g) tl rs) (hp : vl.Perm (rs.map rcPair)) : vc.Perm tl := by
 refine perm_of_ids hs ?_ hn
 have h1 := hp.map Prod.fst
 rw [hv, List.map_map] at h1
 rw [all2_ids hall]
 exact h1
theorem sideOf_perm {vc tl : List Cl} (h : vc.Perm tl) (k : Int) : sideOf vc k = sideOf tl k := by
 unfold sideOf
 rw [Bool.eq_iff_iff, List.any_eq_true, List.any_eq_true]
 exact ⟨fun ⟨x, h1, h2⟩ => ⟨x, h.subset h1, h2⟩, fun ⟨x, h1, h2⟩ => ⟨x, h.symm.subset h1, h2⟩⟩
theorem tops_spec (E : World) (g : PH) (s : Own) (v : Value) (l : List Cl) (hv : Cells g v l) (hf : Fits l) :
  Ctr Tryz.prog E 36 #[.agg #[v]] g s (fun r g' s' => s = s' ∧ Le g g' ∧ Ints g' r (topsC l)) := by
 have hft := tabC_fits hf
 refine Ctr.of (args := [.agg #[v]]) func36 rfl ntmps36 (Nat.le_of_ble_eq_true rfl) ?_
 refine SC.seq (SC.region (SL.W (SO.box rfl) ?_))
 rintro _ _ _ ⟨b1, rfl, rfl, rfl⟩
 refine SL.A rfl (SL.nil (ST.thenN (SC.seq (SC.region (SL.K (SQ.loadVarK 0 isAgg27 sizeOf27 rfl rfl rfl) (SL.W (SO.call call50 rfl (of_spec E g _ v l hv hf)) ?_))))))
 rintro tv g1 _ ⟨rfl, hle, ht⟩
 have htab := ht
 obtain ⟨b, m, iv, rs, rfl, hb, hm, hI, hall⟩ := ht
 obtain ⟨es, clk, hes, hmi⟩ := hm
 refine SL.A rfl (SL.nil (ST.thenN (SC.seq (SC.region (SL.W (SO.mkMap) ?_)))))
 rintro _ _ _ ⟨sm, rfl, rfl, rfl⟩
 refine SL.W (SO.alloc zeroValue96) ?_
 rintro _ _ _ ⟨b4, rfl, rfl, rfl⟩
 refine SL.on (SO.storeAllK 0 sizeOf96 rfl rfl rfl rfl rfl (by exact ⟨rfl, trivial⟩)) ?_
 rintro _ _ _ ⟨rfl, rfl⟩
 refine SL.nil (ST.thenN (SC.seq (SC.seq (SC.region (SL.M rfl (SL.U (SU.nilCheck rfl) (SL.U (SU.fieldAddr underlying88 rfl sizeOf86 rfl) (SL.K (SQ.load isAgg86 rfl (CellAt.known hb rfl)) (SL.W (SO.range underlying86 rfl hes) ?_)))))))))
 rintro _ _ _ ⟨it, rfl, rfl, rfl⟩
 refine SL.nil (ST.thenN (SC.block ?_))
 refine SC.loop (ι := List MapEntry × List (Int × Value) × List Cl × List (Int × Value)) (fun _ => [(3, pp b 0), (4, pp b4 0), (16, pp it 0)]) (fun _ => g1)
  (fun i => iter it m es clk i.1 :: pt b4 (.cells #[.map (some sm)] 96 (0, 0)) :: mp sm i.2.2.2 :: pt b1 (.cells #[v] 27 (0, 0)) :: s)
  (fun i => RVis (rs.map rcPair) es i.1 i.2.1 ∧ SetI i.2.2.2 (sideOf i.2.2.1) ∧ (∀ c ∈ i.2.2.1, c ∈ tabC l) ∧ i.2.1.map Prod.fst = i.2.2.1.map Cl.id) (fun i => rs.length - i.2.1.length)
  ([], [], [], []) ⟨rfl, rfl, rfl, trivial⟩ rfl rfl ⟨RVis.nil _ _, SetI.nil, by simp, rfl⟩ ?_
 rintro ⟨vis, vl, vc, sl⟩ ⟨hrv, hset, hvs, hvl⟩
 dsimp only at hrv hset hvs hvl ⊢
 have hvle := hrv.len hmi
 simp only [List.length_map] at hvle
 refine SC.seq (SC.region (SL.W (SO.nextP 0 rfl rfl hes hmi hrv) ?_))
 rintro _ _ _ ⟨rfl, hcase⟩
 rcases hcase with ⟨rfl, rfl, hperm⟩ | ⟨e, pr, he, hp1, hk1, hv1, hrv2, rfl, rfl⟩
 ·refine SL.U (SU.extract rfl rfl) (SL.nil (ST.thenN (SC.seq (SC.condF rfl (SC.exit (ST.thenX (ST.thenX (ST.blockX (ST.thenN (SC.seq (SC.region (SL.drop (.cons _ (.refl _)) (SL.freeze fun g2 h2 hb4 => ?_)))))))))))))
  refine SL.freezeMap fun g3 h3 hsm => ?_
  refine SL.M rfl (SL.U (SU.mkFunc rfl) (SL.W (SO.call call81 rfl (names_spec E g3 _ _ _ _ _ (htab.mono (h2.trans h3)) (tabC_nodup l) hft (topsP E g3 b4 sm sl (sideOf (tabC l)) _ (h3 _ _ hb4) hsm (hset.congr fun k => sideOf_perm (visited_perm hvl hvs (tabC_nodup l) hall hperm) k)))) ?_))
  rintro r34 g4 _ ⟨rfl, hle4, hr⟩
  refine SL.A rfl (SL.nil (ST.thenN (SC.ret (ST.drop (s' := s) (.cons _ (.refl _)) ?_))))
  exact ST.ret1 (.inl rfl) results36 rfl ⟨rfl, hle.trans (h2.trans (h3.trans hle4)), hr⟩
 ·obtain ⟨x, hx, rfl⟩ := List.mem_map.1 hp1
  obtain ⟨cx, hcm, hcx⟩ := all2_mem hall hx
  have hsl : cx.sides.length < 1099511627776 := hft.2 cx hcm
  obtain ⟨xi, xd, xp, xn, xc⟩ := x
  have hxs := hcx.2.2
  have hxn : xn = cx.sides.length := Sl.slen hxs
  dsimp only at hxs
  subst hxn
  refine SL.U (SU.extract rfl rfl) (SL.nil (ST.thenN (SC.seq (SC.condT rfl (SC.skip (ST.thenN (SC.block (SC.seq (SC.region (SL.K (SQ.entryP 0 rfl rfl hes hmi he hk1 hv1) (SL.U (SU.extract rfl rfl) (SL.W (SO.alloc zeroValue51) ?_))))))))))))
  rintro _ _ _ ⟨b6, rfl, rfl, rfl⟩
  refine SL.on (SO.storeAllK 0 sizeOf51 rfl rfl rfl rfl rfl (by exact ⟨rfl, rfl, rfl, trivial⟩)) ?_
  rintro _ _ _ ⟨rfl, rfl⟩
  refine SL.nil (ST.thenN (SC.seq (SC.region (SL.U (SU.fieldAddr underlying51 rfl sizeOf49 rfl) (SL.K (SQ.load isAgg49 rfl (CellAt.own 0 rfl rfl)) (SL.U (SU.lenN underlying49 rfl) (SL.M rfl (SL.nil (ST.thenN (SC.block (SC.drop (s' := iter it m es clk (vis ++ [e]) :: pt b4 (.cells #[.map (some sm)] 96 (0, 0)) :: mp sm sl :: pt b1 (.cells #[v] 27 (0, 0)) :: s) (.cons _ (.refl _)) ?_)))))))))))
  refine SC.loop (ι := Nat × List (Int × Value)) (fun i => [(3, pp b 0), (4, pp b4 0), (16, pp it 0), (22, .slice xp cx.sides.length xc), (23, vi cx.sides.length), (24, vi i.1)]) (fun _ => g1)
   (fun i => iter it m es clk (vis ++ [e]) :: pt b4 (.cells #[.map (some sm)] 96 (0, 0)) :: mp sm i.2 :: pt b1 (.cells #[v] 27 (0, 0)) :: s)
   (fun i => i.1 ≤ cx.sides.length ∧ SetI i.2 (fun k => (cx.sides.take i.1).any (fun y => decide (y.cell = k)) || sideOf vc k)) (fun i => cx.sides.length - i.1)
   (0, sl) ⟨rfl, rfl, rfl, rfl, rfl, rfl, trivial⟩ rfl (by rfl) ⟨Nat.zero_le _, hset.congr fun k => by simp⟩ ?_
  rintro ⟨j, sj⟩ ⟨hj, hsj⟩
  dsimp only at hj hsj ⊢
  refine SC.seq (SC.region (SL.U (SU.lss rfl rfl) (SL.nil (ST.thenN (SC.seq ?_)))))
  refine SC.ifP rfl (fun hlt => ?_) (fun hlt => ?_)
  ·have hjl : j < cx.sides.length := oM
   have hb1 := hxs.based oM
   refine SC.skip (ST.thenN (SC.seq (SC.block (SC.seq (SC.region (SL.U (SU.indexAddr underlying49 sizeOf55 rfl rfl hb1 oM sL) ?_))))))
   refine SL.q (SQ.elemA isAgg55 sizeOf55 rfl hxs.rd (List.getElem?_eq_getElem hjl)) dC ?_
   refine SL.W (SO.alloc zeroValue55) ?_
   rintro _ _ _ ⟨b8, rfl, rfl, rfl⟩
   refine SL.on (SO.storeAllK 0 sizeOf55 rfl rfl rfl rfl rfl (by exact ⟨rfl, rfl, trivial⟩)) ?_
   rintro _ _ _ ⟨rfl, rfl⟩
   refine SL.nil (ST.thenN (SC.region (SL.K (SQ.load isAgg96 rfl (CellAt.own 2 rfl rfl)) (SL.U (SU.fieldAddr underlying55 rfl sizeOf3 rfl) (SL.K (SQ.load isAgg3 rfl (CellAt.own 0 rfl rfl)) (SL.on (SO.mapUpdate 3 mty96 rfl rfl rfl rfl) ?_))))))
   rintro _ _ _ ⟨rfl, rfl⟩
   refine SL.nil (ST.blockN (ST.thenN (SC.region (SL.U (SU.add rfl rfl oM) (SL.M rfl (SL.nil (ST.drop (s' := iter it m es clk (vis ++ [e]) :: pt b4 (.cells #[.map (some sm)] 96 (0, 0)) :: mp sm (mput sj cx.sides[j].cell (vb true)) :: pt b1 (.cells #[v] 27 (0, 0)) :: s) (.cons _ (.refl _)) ?_)))))))
   exact ST.again (j + 1, mput sj cx.sides[j].cell (vb true)) ⟨rfl, rfl, rfl, rfl, rfl, rfl, trivial⟩ rfl rfl ⟨lN, (hsj.put _).congr fun k => by
    rw [List.take_succ_eq_append_getElem hjl, List.any_append]
    simp [Bool.or_comm, Bool.or_left_comm, Bool.or_assoc, eq_comm]⟩ lN
  ·refine SC.exit (ST.thenX (ST.thenX (ST.blockX (ST.blockN ?_))))
   have hjj : cx.sides.take j = cx.sides := List.take_of_length_le oM
   rw [hjj] at hsj
   exact ST.again (vis ++ [e], vl ++ [rcPair ⟨xi, xd, xp, cx.sides.length, xc⟩], vc ++ [cx], sj) ⟨rfl, rfl, rfl, trivial⟩ rfl rfl ⟨hrv2, hsj.congr fun k => by simp [sideOf, hasC, Bool.or_comm], fun c hc => by
    rcases List.mem_append.1 hc with h | h
    ·exact hvs c h
    ·simp at h; rw [h]; exact hcm, by rw [List.map_append, List.map_append, hvl]; simp [rcPair]; exact hcx.1⟩ (by
    have := hrv2.len hmi
    simp only [List.length_map, List.length_append, List.length_singleton] at this ⊢
    omega)
def eulC (l : List Cl) : Int := ((tabC l).map fun c => if c.dim.tmod 2 = 0 then 1 else -1).sum
theorem eul_bound (l : List Cl) : (l.map fun c => if c.dim.tmod 2 = 0 then (1 : Int) else -1).sum ≤ l.length ∧ -(l.length : Int) ≤ (l.map fun c => if c.dim.tmod 2 = 0 then (1 : Int) else -1).sum := by
 induction l with
 | nil => simp
 | cons c t ih =>
  simp only [List.map_cons, List.sum_cons, List.length_cons]
  split <;> omega
theorem perm_sum {l m : List Int} (h : l.Perm m) : l.sum = m.sum := by
 induction h with
 | nil => rfl
 | cons x _ ih => simp [ih]
 | swap x y l => simp; omega
 | trans _ _ h1 h2 => exact h1.trans h2
theorem get_vi {f : Fr} {t : Nat} {a b : Int} (h : get? f t = some (vi a)) (e : a = b) : get? f t = some (vi b) := e ▸ h
theorem euler_spec (E : World) (g : PH) (s : Own) (v : Value) (l : List Cl) (hv : Cells g v l) (hf : Fits l) :
  Ctr Tryz.prog E 19 #[.agg #[v]] g s (fun r g' s' => r = vi (eulC l) ∧ g = g' ∧ s = s') := by
 have hft := tabC_fits hf
 have hfl := hft.1
 refine Ctr.of (args := [.agg #[v]]) func19 rfl ntmps19 (Nat.le_of_ble_eq_true rfl) ?_
 refine SC.seq (SC.region (SL.W (SO.box rfl) ?_))
 rintro _ _ _ ⟨b1, rfl, rfl, rfl⟩
 refine SL.A rfl (SL.nil (ST.thenN (SC.seq (SC.region (SL.A rfl (SL.nil (ST.thenN (SC.seq (SC.seq (SC.region (SL.K (SQ.loadVarK 0 isAgg27 sizeOf27 rfl rfl rfl) (SL.W (SO.call call50 rfl (of_spec E g _ v l hv hf)) ?_))))))))))))
 rintro tv g1 _ ⟨rfl, hle, ht⟩
 have htab := ht
 obtain ⟨b, m, iv, rs, rfl, hb, hm, hI, hall⟩ := ht
 obtain ⟨es, clk, hes, hmi⟩ := hm
 refine SL.U (SU.nilCheck rfl) (SL.U (SU.fieldAddr underlying88 rfl sizeOf86 rfl) (SL.K (SQ.load isAgg86 rfl (CellAt.known hb rfl)) (SL.W (SO.range underlying86 rfl hes) ?_)))
 rintro _ _ _ ⟨it, rfl, rfl, rfl⟩
 refine SL.nil (ST.thenN (SC.block ?_))
 have hlen := hall.length
 refine SC.loop (ι := List MapEntry × List (Int × Value) × List Cl) (fun i => [(3, vi (i.2.2.map fun c => if c.dim.tmod 2 = 0 then (1 : Int) else -1).sum), (11, pp it 0)]) (fun _ => g1)
  (fun i => iter it m es clk i.1 :: pt b1 (.cells #[v] 27 (0, 0)) :: s)
  (fun i => RVis (rs.map rcPair) es i.1 i.2.1 ∧ (∀ c ∈ i.2.2, c ∈ tabC l) ∧ i.2.1.map Prod.fst = i.2.2.map Cl.id) (fun i => rs.length - i.2.1.length)
  ([], [], []) ⟨rfl, rfl, trivial⟩ rfl rfl ⟨RVis.nil _ _, by simp, rfl⟩ ?_
 rintro ⟨vis, vl, vc⟩ ⟨hrv, hvs, hvl⟩
 dsimp only at hrv hvs hvl ⊢
 have hvle := hrv.len hmi
 simp only [List.length_map] at hvle
 have hvcl : vl.length = vc.length := by have := congrArg List.length hvl; simpa using this
 have hbd := eul_bound vc
 refine SC.seq (SC.region (SL.W (SO.nextP 0 rfl rfl hes hmi hrv) ?_))
 rintro _ _ _ ⟨rfl, hcase⟩
 rcases hcase with ⟨rfl, rfl, hperm⟩ | ⟨e, pr, he, hp1, hk1, hv1, hrv2, rfl, rfl⟩
 ·have hp := visited_perm hvl hvs (tabC_nodup l) hall hperm
  refine SL.U (SU.extract rfl rfl) (SL.nil (ST.thenN (SC.seq (SC.condF rfl (SC.exit (ST.thenX (ST.thenX (ST.blockX (ST.thenN (SC.seq (SC.region (SL.M rfl (SL.A rfl (SL.nil (ST.thenN (SC.ret ?_))))))))))))))))
  refine ST.drop (s' := s) (.cons _ (.cons _ (.refl _))) (ST.less hle ?_)
  exact ST.ret1 (.inl rfl) results19 rfl ⟨by rw [perm_sum (hp.map _)]; rfl, rfl, rfl⟩
 ·obtain ⟨x, hx, rfl⟩ := List.mem_map.1 hp1
  obtain ⟨cx, hcm, hcx⟩ := all2_mem hall hx
  have hvs2 : ∀ c ∈ vc ++ [cx], c ∈ tabC l := fun c hc => by
   rcases List.mem_append.1 hc with h | h
   ·exact hvs c h
   ·simp at h; rw [h]; exact hcm
  have hvl2 : (vl ++ [rcPair x]).map Prod.fst = (vc ++ [cx]).map Cl.id := by rw [List.map_append, List.map_append, hvl]; simp [rcPair, hcx.1]
  have hm2 := hrv2.len hmi
  simp only [List.length_map, List.length_append, List.length_singleton] at hm2
  refine SL.U (SU.extract rfl rfl) (SL.nil (ST.thenN (SC.seq (SC.condT rfl (SC.skip (ST.thenN (SC.block (SC.seq (SC.region (SL.K (SQ.entryP 0 rfl rfl hes hmi he hk1 hv1) (SL.U (SU.extract rfl rfl) (SL.W (SO.alloc zeroValue51) ?_))))))))))))
  rintro _ _ _ ⟨b5, rfl, rfl, rfl⟩
  refine SL.on (SO.storeAllK 0 sizeOf51 rfl rfl rfl rfl rfl (by exact ⟨rfl, rfl, rfl, trivial⟩)) ?_
  rintro _ _ _ ⟨rfl, rfl⟩
  refine SL.nil (ST.thenN (SC.seq (SC.region (SL.U (SU.fieldAddr underlying51 rfl sizeOf3 rfl) (SL.K (SQ.load isAgg3 rfl (CellAt.own 0 rfl rfl)) (SL.U (SU.rem rfl rfl dC) (SL.U (SU.eql rfl rfl) (SL.nil (ST.thenN ?_)))))))))
  refine SC.ifP rfl (fun hev => ?_) (fun hev => ?_)
  ·refine SC.region (SL.M rfl (SL.U (SU.add rfl rfl oM) (SL.A rfl (SL.nil (ST.blockN (ST.drop (s' := iter it m es clk (vis ++ [e]) :: pt b1 (.cells #[v] 27 (0, 0)) :: s) (.cons _ (.refl _)) ?_))))))
   exact ST.again (vis ++ [e], vl ++ [rcPair x], vc ++ [cx]) ⟨get_vi rfl (by rw [hcx.2.1] at hev; simp [hev]), rfl, trivial⟩ rfl rfl ⟨hrv2, hvs2, hvl2⟩ lN
  ·refine SC.region (SL.M rfl (SL.U (SU.sub rfl rfl oM) (SL.A rfl (SL.nil (ST.blockN (ST.drop (s' := iter it m es clk (vis ++ [e]) :: pt b1 (.cells #[v] 27 (0, 0)) :: s) (.cons _ (.refl _)) ?_))))))
   exact ST.again (vis ++ [e], vl ++ [rcPair x], vc ++ [cx]) ⟨get_vi rfl (by rw [hcx.2.1] at hev; simp [hev]; omega), rfl, trivial⟩ rfl rfl ⟨hrv2, hvs2, hvl2⟩ lN
theorem set_self {α : Type} {s : List α} {i : Nat} {a : α} (h : s[i]? = some a) : s.set i a = s := by
 apply List.ext_getElem?
 intro j
 rw [List.getElem?_set]
 split
 ·rename_i e
  subst e
  split
  ·exact h.symm
  ·rename_i h2
   rw [List.getElem?_eq_none oM]
 ·rfl
def findT (tl : List Cl) (id : Int) : Option Cl := tl.find? fun c => decide (c.id = id)
def reachF (tl : List Cl) : Nat → Int → List Int → List Int
 | 0, _, vis => vis
 | n + 1, id, vis =>
  match findT tl id with
  | none => vis
  | some c => if vis.contains id then vis else c.sides.foldl (fun v x => reachF tl n x.cell v) (vis ++ [id])
theorem reachF_succ (tl : List Cl) (n : Nat) (id : Int) (vis : List Int) : reachF tl (n + 1) id vis = (match findT tl id with
  | none => vis
  | some c => if vis.contains id then vis else c.sides.foldl (fun v x => reachF tl n x.cell v) (vis ++ [id])) := rfl
def cntF (tl : List Cl) (vis : List Int) : Nat := (tl.filter fun c => !vis.contains c.id).length
def closF (tl : List Cl) (ids : List Int) : List Int := ids.foldl (fun v id => reachF tl (tl.length + 1) id v) []
theorem reachF_sub (tl : List Cl) : ∀ (n : Nat) (id : Int) (vis : List Int) (x : Int), x ∈ vis → x ∈ reachF tl n id vis
 | 0, _, _, _, h => h
 | n + 1, id, vis, x, h => by
  unfold reachF
  split
  ·exact h
  ·split
   ·exact h
   ·rename_i c _ _
    have : ∀ (l : List Side) (v : List Int), x ∈ v → x ∈ l.foldl (fun v y => reachF tl n y.cell v) v := by
     intro l
     induction l with
     | nil => intro v hv; exact hv
     | cons y t ih => intro v hv; exact ih _ (reachF_sub tl n y.cell v x hv)
    exact this _ _ (by simp [h])
theorem cntF_mono {tl : List Cl} {v v' : List Int} (h : ∀ x ∈ v, x ∈ v') : cntF tl v' ≤ cntF tl v := by
 unfold cntF
 rw [← List.countP_eq_length_filter, ← List.countP_eq_length_filter]
 apply List.countP_mono_left
 intro c _ hp
 simp at hp ⊢
 exact fun e => hp (h _ e)
theorem cntF_lt {tl : List Cl} {v : List Int} {c : Cl} (hc : c ∈ tl) (hn : v.contains c.id = false) : cntF tl (v ++ [c.id]) < cntF tl v := by
 induction tl with
 | nil => simp at hc
 | cons d t ih =>
  have hm : cntF t (v ++ [c.id]) ≤ cntF t v := cntF_mono (fun x hx => by simp [hx])
  have e1 : ∀ u : List Int, cntF (d :: t) u = (if u.contains d.id then 0 else 1) + cntF t u := fun u => by
   unfold cntF
   rw [List.filter_cons]
   cases u.contains d.id <;> simp <;> omega
  rw [e1, e1]
  rcases List.mem_cons.1 hc with rfl | hc'
  ·have : (v ++ [c.id]).contains c.id = true := by simp
   rw [this, hn]
   simp
   omega
  ·have := ih hc'
   cases h1 : v.contains d.id
   ·cases h2 : (v ++ [c.id]).contains d.id <;> simp <;> omega
   ·have h2 : (v ++ [c.id]).contains d.id = true := by simp at h1 ⊢; exact .inl h1
    rw [h2]
    simp
    exact this
def setP (vis : List Int) : List (Int × Value) := vis.map fun k => (k, vb true)
theorem setP_set (vis : List Int) : SetI (setP vis) (fun k => vis.contains k) := by
 intro k
 induction vis with
 | nil => rfl
 | cons a t ih =>
  simp only [setP, List.map_cons, mget_cons] at ih ⊢
  by_cases h : k = a
  ·simp [h]
  ·have h2 : (k == a) = false := by simpa using h
   rw [if_neg h, ih]
   simp [h]
theorem setP_put {vis : List Int} {id : Int} (h : vis.contains id = false) : mput (setP vis) id (vb true) = setP (vis ++ [id]) := by
 rw [mput_none _ _ _ (fun p hp => by
  obtain ⟨a, ha, rfl⟩ := List.mem_map.1 hp
  intro e
  simp at h
  exact h (by rw [← e]; exact ha))]
 simp [setP]
theorem findT_mem {tl : List Cl} {id : Int} {c : Cl} (h : findT tl id = some c) : c ∈ tl ∧ c.id = id := ⟨List.mem_of_find?_eq_some h, by simpa using List.find?_some h⟩
theorem take_succ_of {α : Type} {l : List α} {j : Nat} {y : α} (h : l[j]? = some y) : l.take (j + 1) = l.take j ++ [y] := by
 obtain ⟨h1, h2⟩ := List.getElem?_eq_some_iff.1 h
 rw [List.take_succ_eq_append_getElem h1, h2]
theorem get_set {α : Type} {s : List α} {i : Nat} {a : α} (h : s[i]? = some a) (b : α) : (s.set i b)[i]? = some b := by
 have := (List.getElem?_eq_some_iff.1 h).1
 simp [this]
theorem reach_spec (E : World) (g : PH) (bt bm bf m : Nat) (tv : Value) (tl : List Cl) (hv : Tab g tv tl) (hf : Fits tl) (h2 : g bt = some (.cells #[tv] 75 (0, 0))) (h5 : g bm = some (.cells #[.map (some m)] 96 (0, 0)))
  (h6 : g bf = some (.cells #[.func (.func 101) #[] #[pp bt 0, pp bm 0, pp bf 0]] 119 (0, 0))) : ∀ (n : Nat) (id : Int) (vis : List Int) (s : Own) (i : Nat), cntF tl vis < n → s[i]? = some (mp m (setP vis)) →
  Ctr Tryz.prog E 101 #[vi id, pp bt 0, pp bm 0, pp bf 0] g s (fun _ g' s' => g = g' ∧ s' = s.set i (mp m (setP (reachF tl n id vis)))) := by
 intro n
 induction n with
 | zero => intro id vis s i h; omega
 | succ n ih =>
 intro id vis s i hcnt hi
 have hv' := hv
 obtain ⟨b, mt, iv, rs, rfl, hb, hm, hI, hall⟩ := hv'
 obtain ⟨x, hx1, hx2, hx3⟩ := all2_look hall zeroCR id
 obtain ⟨xi, xd, xp, xn, xc⟩ := x
 have hxs : SlA encSide g (.slice xp xn xc) ((findT tl id).getD zeroC).sides := hx3.2.2
 have hxn : xn = ((findT tl id).getD zeroC).sides.length := Sl.slen hxs
 subst hxn
 refine Ctr.of (args := [vi id, pp bt 0, pp bm 0, pp bf 0]) func101 rfl ntmps101 (Nat.le_of_ble_eq_true rfl) ?_
 refine SC.seq (SC.region (SL.K (SQ.load isAgg75 rfl (CellAt.known h2 rfl)) (SL.U (SU.nilCheck rfl) (SL.U (SU.fieldAddr underlying88 rfl sizeOf86 rfl) (SL.K (SQ.load isAgg86 rfl (CellAt.known hb rfl)) (SL.M rfl (SL.K (SQ.eq (v' := .tuple #[rcv ⟨xi, xd, xp, ((findT tl id).getD zeroC).sides.length, xc⟩, vb (decide ((findT tl id).isSome = true))]) (SQ.lookupOk mty86 rfl rfl (MapAt.known hm)) (by rw [hx1, hx2, Bool.decide_eq_true]; rfl)) ?_)))))))
 refine SL.M rfl (SL.U (SU.extract rfl rfl) (SL.U (SU.extract rfl rfl) (SL.W (SO.alloc zeroValue51) ?_)))
 rintro _ _ _ ⟨b5, rfl, rfl, rfl⟩
 refine SL.on (SO.storeAllK 0 sizeOf51 rfl rfl rfl rfl rfl (by exact ⟨rfl, rfl, rfl, trivial⟩)) ?_
 rintro _ _ _ ⟨rfl, rfl⟩
 refine SL.A rfl (SL.nil (ST.thenN (SC.seq ?_)))
 refine SC.cutB 24 (!(findT tl id).isSome || vis.contains id) ?_ ?_
 ·refine SC.region (SL.M rfl (SL.U (SU.notP rfl) (SL.M rfl ?_)))
  refine SL.split ?_ ?_
  ·intro h20
   refine SL.Z rfl rfl rfl (SL.Z rfl rfl rfl (SL.Z rfl rfl rfl (SL.U (SU.pickT rfl rfl) (SL.nil ?_))))
   exact ST.mid1 (by simp_all [get?]) mI
  ·intro h20
   refine SL.gq (Gd.onT rfl rfl rfl dC) (SQ.load isAgg96 rfl (CellAt.known h5 rfl)) dC (SL.Y rfl rfl rfl (SU.move rfl) (SL.gq (Gd.onT rfl rfl rfl dC) (SQ.eq (v' := vb (decide (vis.contains id = true))) (SQ.lookup mty96 rfl rfl (MapAt.own (i + 1) hi)) (by rw [(setP_set vis).get id]; simp)) dC ?_))
   refine SL.U (SU.pickF rfl rfl) (SL.nil ?_)
   exact ST.mid1 (by simp_all [get?]) mI
 refine SC.ifB rfl (fun hstop => ?_) (fun hstop => ?_)
 ·refine SC.ret (ST.thenR (ST.drop (s' := s) (.cons _ (.refl _)) ?_))
  have hr : reachF tl (n + 1) id vis = vis := by
   unfold reachF
   cases h : findT tl id with
   | none => rfl
   | some c =>
    rw [h] at hstop
    simp only [Option.isSome_some, Bool.not_true, Bool.false_or] at hstop
    simp only [hstop, if_true]
  exact ST.ret0 (.inl rfl) results101 ⟨rfl, by rw [hr, set_self hi]⟩
 ·obtain ⟨c, hc⟩ : ∃ c, findT tl id = some c := by
   cases h : findT tl id with
   | none => rw [h] at hstop; simp at hstop
   | some c => exact ⟨c, rfl⟩
  obtain ⟨hcm, hcid⟩ := findT_mem hc
  have hnv : vis.contains id = false := by rw [hc] at hstop; simpa using hstop
  have hcl := hf.2 c hcm
  have hcnt2 : cntF tl (vis ++ [id]) < n := by
   have := cntF_lt hcm (by rw [hcid]; exact hnv)
   rw [hcid] at this
   omega
  simp only [hc, Option.getD_some] at hxs ⊢
  refine SC.skip (ST.thenN (SC.seq (SC.region (SL.K (SQ.load isAgg96 rfl (CellAt.known h5 rfl)) (SL.M rfl (SL.on (SO.mapUpdate (i + 1) mty96 rfl rfl rfl hi) ?_))))))
  rintro _ _ _ ⟨rfl, rfl⟩
  rw [setP_put hnv]
  refine SL.nil (ST.thenN (SC.seq (SC.region (SL.U (SU.fieldAddr underlying51 rfl sizeOf49 rfl) (SL.K (SQ.load isAgg49 rfl (CellAt.own 0 rfl rfl)) (SL.U (SU.lenN underlying49 rfl) (SL.M rfl (SL.nil (ST.thenN (SC.block (SC.drop (s' := s.set i (mp m (setP (vis ++ [id])))) (.cons _ (.refl _)) ?_)))))))))))
  refine SC.loop (ι := Nat × List Int) (fun q => [(3, pp bf 0), (28, .slice xp c.sides.length xc), (29, vi c.sides.length), (30, vi q.1)]) (fun _ => g)
   (fun q => s.set i (mp m (setP q.2))) (fun q => q.1 ≤ c.sides.length ∧ q.2 = (c.sides.take q.1).foldl (fun v x => reachF tl n x.cell v) (vis ++ [id]) ∧ cntF tl q.2 < n) (fun q => c.sides.length - q.1)
   (0, vis ++ [id]) ⟨rfl, rfl, rfl, rfl, trivial⟩ rfl rfl ⟨Nat.zero_le _, by simp, hcnt2⟩ ?_
  rintro ⟨j, vj⟩ ⟨hj, hvj, hcj⟩
  dsimp only at hj hvj hcj ⊢
  refine SC.seq (SC.region (SL.U (SU.lss rfl rfl) (SL.nil (ST.thenN (SC.seq ?_)))))
  refine SC.ifP rfl (fun hlt => ?_) (fun hlt => ?_)
  ·have hjl : j < c.sides.length := oM
   have hb1 := hxs.based oM
   have hjx : c.sides[((j : Nat) : Int).toNat]? = some c.sides[j] := List.getElem?_eq_getElem hjl
   generalize c.sides[j] = y at *
   refine SC.skip (ST.thenN (SC.seq (SC.block (SC.seq (SC.region (SL.U (SU.indexAddr underlying49 sizeOf55 rfl rfl hb1 oM sL) (SL.K (SQ.elemA isAgg55 sizeOf55 rfl hxs.rd hjx) (SL.W (SO.alloc zeroValue55) ?_))))))))
   rintro _ _ _ ⟨b8, rfl, rfl, rfl⟩
   refine SL.on (SO.storeAllK 0 sizeOf55 rfl rfl rfl rfl rfl (by exact ⟨rfl, rfl, trivial⟩)) ?_
   rintro _ _ _ ⟨rfl, rfl⟩
   refine SL.nil (ST.thenN (SC.region (SL.K (SQ.load isAgg119 rfl (CellAt.known h6 rfl)) (SL.U (SU.fieldAddr underlying55 rfl sizeOf3 rfl) (SL.K (SQ.load isAgg3 rfl (CellAt.own 0 rfl rfl)) (SL.W (SO.callV rfl rfl (CallV.mk (cap := [pp bt 0, pp bm 0, pp bf 0]) call101 (ih y.cell vj _ (i + 1) hcj (get_set hi _)))) ?_))))))
   rintro _ _ _ ⟨rfl, rfl⟩
   refine SL.nil (ST.blockN (ST.thenN (SC.region (SL.U (SU.add rfl rfl oM) (SL.M rfl (SL.nil (ST.drop (s' := s.set i (mp m (setP (reachF tl n y.cell vj)))) (by rw [List.set_cons_zero, List.set_cons_succ, List.set_set]; exact .cons _ (.refl _)) ?_)))))))
   exact ST.again (j + 1, reachF tl n y.cell vj) ⟨rfl, rfl, rfl, rfl, trivial⟩ rfl rfl ⟨lN, by
    rw [take_succ_of (j := j) hjx, List.foldl_append, ← hvj]; rfl, Nat.lt_of_le_of_lt (cntF_mono fun x hx => reachF_sub tl n _ _ x hx) hcj⟩ lN
  ·refine SC.exit (ST.thenX (ST.thenX (ST.blockX ?_)))
   have hjj : c.sides.take j = c.sides := List.take_of_length_le oM
   have hr : reachF tl (n + 1) id vis = vj := by
    rw [hjj] at hvj
    rw [hvj, reachF_succ, hc]
    simp only [hnv, Bool.false_eq_true, if_false]
   exact ST.ret0 (.inr rfl) results101 ⟨rfl, by rw [hr]⟩
theorem cntF_le (tl : List Cl) (v : List Int) : cntF tl v ≤ tl.length := List.length_filter_le _ _
theorem closure_spec (E : World) (g : PH) (s : Own) (v iv : Value) (tl : List Cl) (ids : List Int) (hv : Tab g v tl) (hf : Fits tl) (hi : Ints g iv ids) (hl : ids.length < 1099511627776) :
  Ctr Tryz.prog E 72 #[v, iv] g s (fun r g' s' => ∃ m, r = .map (some m) ∧ Le g g' ∧ s' = mp m (setP (closF tl ids)) :: s) := by
 obtain ⟨p, c, rfl⟩ := SlA.form hi
 have hvc : v.cells = #[v] := by obtain ⟨b, _, _, _, rfl, _⟩ := hv; rfl
 refine Ctr.of (args := [v, .slice p ids.length c]) func72 rfl ntmps72 (Nat.le_of_ble_eq_true rfl) ?_
 refine SC.seq (SC.region (SL.W (SO.box rfl) ?_))
 rintro _ _ _ ⟨b2, rfl, rfl, rfl⟩
 refine SL.freeze fun g1 hle hb2 => ?_
 rw [hvc] at hb2
 refine SL.A rfl (SL.nil (ST.thenN (SC.seq (SC.region (SL.W (SO.mkMap) ?_)))))
 rintro _ _ _ ⟨m, rfl, rfl, rfl⟩
 refine SL.W (SO.alloc zeroValue96) ?_
 rintro _ _ _ ⟨b5, rfl, rfl, rfl⟩
 refine SL.on (SO.storeAllK 0 sizeOf96 rfl rfl rfl rfl rfl ⟨rfl, trivial⟩) ?_
 rintro _ _ _ ⟨rfl, rfl⟩
 refine SL.freeze fun g2 hle2 hb5 => ?_
 refine SL.nil (ST.thenN (SC.seq (SC.region (SL.W (SO.alloc zeroValue119) ?_))))
 rintro _ _ _ ⟨b6, rfl, rfl, rfl⟩
 refine SL.nil (ST.thenN (SC.seq (SC.region (SL.U (SU.mkFunc rfl) (SL.on (SO.storeAllK 0 sizeOf119 rfl rfl rfl rfl rfl ⟨rfl, trivial⟩) ?_)))))
 rintro _ _ _ ⟨rfl, rfl⟩
 refine SL.freeze fun g3 hle3 hb6 => ?_
 refine SL.nil (ST.thenN (SC.seq (SC.seq (SC.region (SL.M rfl (SL.U (SU.lenN underlying45 rfl) (SL.M rfl (SL.nil (ST.thenN (SC.block ?_))))))))))
 have hv3 := hv.mono (hle.trans (hle2.trans hle3))
 have hi3 := hi.mono (hle.trans (hle2.trans hle3))
 refine SC.loop (ι := Nat × List Int) (fun q => [(5, pp b5 0), (6, pp b6 0), (11, .slice p ids.length c), (12, vi ids.length), (13, vi q.1)]) (fun _ => g3)
  (fun q => mp m (setP q.2) :: s) (fun q => q.1 ≤ ids.length ∧ q.2 = (ids.take q.1).foldl (fun v id => reachF tl (tl.length + 1) id v) []) (fun q => ids.length - q.1)
  (0, []) ⟨rfl, rfl, rfl, rfl, rfl, trivial⟩ rfl rfl ⟨Nat.zero_le _, by simp⟩ ?_
 rintro ⟨j, vj⟩ ⟨hj, hvj⟩
 dsimp only at hj hvj ⊢
 refine SC.seq (SC.region (SL.U (SU.lss rfl rfl) (SL.nil (ST.thenN (SC.seq ?_)))))
 refine SC.ifP rfl (fun hlt => ?_) (fun hlt => ?_)
 ·have hjl : j < ids.length := oM
  have hb1 := SlA.based hi oM
  have hjx : ids[((j : Nat) : Int).toNat]? = some ids[j] := List.getElem?_eq_getElem hjl
  generalize ids[j] = y at *
  refine SC.skip (ST.thenN (SC.seq (SC.block (SC.seq (SC.region (SL.U (SU.indexAddr underlying45 sizeOf3 rfl rfl hb1 oM sL) (SL.K (SQ.elem1 isAgg3 rfl (SlA.rd hi3) hjx rfl) (SL.A rfl (SL.nil (ST.thenN (SC.region (SL.K (SQ.load isAgg119 rfl (CellAt.known hb6 rfl)) (SL.M rfl (SL.W (SO.callV rfl rfl (CallV.mk (cap := [pp b2 0, pp b5 0, pp b6 0]) call101 (reach_spec E g3 b2 b5 b6 m v tl hv3 hf ((hle2.trans hle3) _ _ hb2) (hle3 _ _ hb5) hb6 (tl.length + 1) y vj _ 0 (Nat.lt_succ_of_le (cntF_le _ _)) rfl))) ?_))))))))))))))
  rintro _ _ _ ⟨rfl, rfl⟩
  refine SL.nil (ST.blockN (ST.thenN (SC.region (SL.U (SU.add rfl rfl oM) (SL.M rfl (SL.nil ?_))))))
  exact ST.again (j + 1, reachF tl (tl.length + 1) y vj) ⟨rfl, rfl, rfl, rfl, rfl, trivial⟩ rfl rfl ⟨lN, by rw [take_succ_of (j := j) hjx, List.foldl_append, ← hvj]; rfl⟩ lN
 ·refine SC.exit (ST.thenX (ST.thenX (ST.blockX (ST.thenN (SC.seq (SC.region (SL.K (SQ.load isAgg96 rfl (CellAt.known (hle3 _ _ hb5) rfl)) (SL.A rfl (SL.nil (ST.thenN (SC.ret ?_)))))))))))
  have hjj : ids.take j = ids := List.take_of_length_le oM
  rw [hjj] at hvj
  exact ST.ret1 (.inl rfl) results72 rfl ⟨m, rfl, hle.trans (hle2.trans hle3), by rw [hvj]; rfl⟩
end Go.Proofs.YtkdibcicncjpdaaGreat
