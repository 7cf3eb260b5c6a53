/-
  The evaluator's soundness, first part: names, tries, values under names, lists of cells. The evaluator's soundness, second part: numbers and texts; operands. The evaluator's soundness, third part: memory under names; operations that only compute or read. The evaluator's soundness, fourth part: comparisons, numbers, texts, places. The evaluator's soundness, fifth part: numbers, texts, places. The evaluator's soundness, sixth part: the rest of what computes or reads. The evaluator's soundness, seventh part: places, lengths, slices, texts. The evaluator's soundness, eighth part: slices of slices, arrays and texts. No condition.
-/
import Derived.Test.YtbfeggodaaojgaaGreatDoorBa03
import Derived.IntWalk
import Derived.Laws.Strings
import Derived.Laws.StructEq
import Derived.Lib.SliceRun
import Derived.Laws.Tables
import Derived.Laws.Entries
import Derived.ChangeKeysEq
set_option linter.all false
section
set_option linter.all false
namespace Go.Ev
open Go

/-! Names. -/
theorem Pos.nat_succ : ∀ p : Pos, p.succ.nat = p.nat + 1
  | .e => rfl
  | .l p => by simp only [Pos.succ, Pos.nat]
  | .r p => by simp only [Pos.succ, Pos.nat, Pos.nat_succ p]; omega
theorem Pos.nat_of : ∀ n, (Pos.of n).nat = n
  | 0 => rfl
  | n + 1 => by simp only [Pos.of, Pos.nat_succ, Pos.nat_of n]
theorem Pos.nat_inj : ∀ {p q : Pos}, p.nat = q.nat → p = q
  | .e, .e, _ => rfl
  | .e, .l q, h => by simp [Pos.nat] at h
  | .e, .r q, h => by simp [Pos.nat] at h
  | .l p, .e, h => by simp [Pos.nat] at h
  | .l p, .l q, h => by simp only [Pos.nat] at h; rw [Pos.nat_inj (p := p) (q := q) (by omega)]
  | .l p, .r q, h => by simp only [Pos.nat] at h; omega
  | .r p, .e, h => by simp [Pos.nat] at h
  | .r p, .l q, h => by simp only [Pos.nat] at h; omega
  | .r p, .r q, h => by simp only [Pos.nat] at h; rw [Pos.nat_inj (p := p) (q := q) (by omega)]
theorem Pos.of_inj {m n : Nat} (h : Pos.of m = Pos.of n) : m = n := by have := congrArg Pos.nat h; rwa [Pos.nat_of, Pos.nat_of] at this
theorem Pos.of_nat (p : Pos) : Pos.of p.nat = p := Pos.nat_inj (Pos.nat_of _)
instance : DecidableEq Pos := fun p q => if h : p.nat = q.nat then isTrue (Pos.nat_inj h) else isFalse fun e => h (by rw [e])

section
variable {α : Type}
theorem get_leaf (p : Pos) : Tr.get p (.leaf : Tr α) = none := by cases p <;> rfl
theorem get_put_same : ∀ (p : Pos) (t : Tr α) (x : α), Tr.get p (Tr.put p t x) = some x
  | .e, .leaf, _ => rfl
  | .e, .nodeN _ _, _ => rfl
  | .e, .nodeS _ _ _, _ => rfl
  | .l p, .leaf, x => get_put_same p .leaf x
  | .l p, .nodeN l _, x => get_put_same p l x
  | .l p, .nodeS l _ _, x => get_put_same p l x
  | .r p, .leaf, x => get_put_same p .leaf x
  | .r p, .nodeN _ r, x => get_put_same p r x
  | .r p, .nodeS _ _ r, x => get_put_same p r x
theorem get_put_ne : ∀ (p q : Pos) (t : Tr α) (x : α), p ≠ q → Tr.get q (Tr.put p t x) = Tr.get q t
  | .e, .e, _, _, h => absurd rfl h
  | .e, .l q, .leaf, _, _ => by simp [Tr.put, Tr.get, get_leaf]
  | .e, .l q, .nodeN _ _, _, _ => rfl
  | .e, .l q, .nodeS _ _ _, _, _ => rfl
  | .e, .r q, .leaf, _, _ => by simp [Tr.put, Tr.get, get_leaf]
  | .e, .r q, .nodeN _ _, _, _ => rfl
  | .e, .r q, .nodeS _ _ _, _, _ => rfl
  | .l p, .e, .leaf, _, _ => rfl
  | .l p, .e, .nodeN _ _, _, _ => rfl
  | .l p, .e, .nodeS _ _ _, _, _ => rfl
  | .l p, .l q, .leaf, x, h => by simp only [Tr.put, Tr.get]; rw [get_put_ne p q .leaf x (fun e => h (by rw [e])), get_leaf]
  | .l p, .l q, .nodeN l _, x, h => get_put_ne p q l x (fun e => h (by rw [e]))
  | .l p, .l q, .nodeS l _ _, x, h => get_put_ne p q l x (fun e => h (by rw [e]))
  | .l p, .r q, .leaf, x, h => by simp [Tr.put, Tr.get, get_leaf]
  | .l p, .r q, .nodeN l _, x, h => rfl
  | .l p, .r q, .nodeS l _ _, x, h => rfl
  | .r p, .e, .leaf, _, _ => rfl
  | .r p, .e, .nodeN _ _, _, _ => rfl
  | .r p, .e, .nodeS _ _ _, _, _ => rfl
  | .r p, .r q, .leaf, x, h => by simp only [Tr.put, Tr.get]; rw [get_put_ne p q .leaf x (fun e => h (by rw [e])), get_leaf]
  | .r p, .r q, .nodeN _ r, x, h => get_put_ne p q r x (fun e => h (by rw [e]))
  | .r p, .r q, .nodeS _ _ r, x, h => get_put_ne p q r x (fun e => h (by rw [e]))
  | .r p, .l q, .leaf, x, h => by simp [Tr.put, Tr.get, get_leaf]
  | .r p, .l q, .nodeN l _, x, h => rfl
  | .r p, .l q, .nodeS l _ _, x, h => rfl
theorem get_del_same : ∀ (p : Pos) (t : Tr α), Tr.get p (Tr.del p t) = none
  | p, .leaf => by cases p <;> rfl
  | .e, .nodeN _ _ => rfl
  | .e, .nodeS _ _ _ => rfl
  | .l p, .nodeN l _ => get_del_same p l
  | .l p, .nodeS l _ _ => get_del_same p l
  | .r p, .nodeN _ r => get_del_same p r
  | .r p, .nodeS _ _ r => get_del_same p r
theorem get_del_ne : ∀ (p q : Pos) (t : Tr α), p ≠ q → Tr.get q (Tr.del p t) = Tr.get q t
  | p, q, .leaf, _ => by cases p <;> rfl
  | .e, .e, _, h => absurd rfl h
  | .e, .l q, .nodeN _ _, _ => rfl
  | .e, .l q, .nodeS _ _ _, _ => rfl
  | .e, .r q, .nodeN _ _, _ => rfl
  | .e, .r q, .nodeS _ _ _, _ => rfl
  | .l p, .e, .nodeN _ _, _ => rfl
  | .l p, .e, .nodeS _ _ _, _ => rfl
  | .l p, .l q, .nodeN l _, h => get_del_ne p q l (fun e => h (by rw [e]))
  | .l p, .l q, .nodeS l _ _, h => get_del_ne p q l (fun e => h (by rw [e]))
  | .l p, .r q, .nodeN l _, h => rfl
  | .l p, .r q, .nodeS l _ _, h => rfl
  | .r p, .e, .nodeN _ _, _ => rfl
  | .r p, .e, .nodeS _ _ _, _ => rfl
  | .r p, .r q, .nodeN _ r, h => get_del_ne p q r (fun e => h (by rw [e]))
  | .r p, .r q, .nodeS _ _ r, h => get_del_ne p q r (fun e => h (by rw [e]))
  | .r p, .l q, .nodeN l _, h => rfl
  | .r p, .l q, .nodeS l _ _, h => rfl
theorem getK_ok : ∀ (p : Pos) (t : Tr α) (c : α → Prop), Tr.getK p t c → ∃ v, Tr.get p t = some v ∧ c v
  | .e, .leaf, _, h => h.elim
  | .e, .nodeN _ _, _, h => h.elim
  | .e, .nodeS _ v _, _, h => ⟨v, rfl, h⟩
  | .l _, .leaf, _, h => h.elim
  | .l p, .nodeN l _, c, h => getK_ok p l c h
  | .l p, .nodeS l _ _, c, h => getK_ok p l c h
  | .r _, .leaf, _, h => h.elim
  | .r p, .nodeN _ r, c, h => getK_ok p r c h
  | .r p, .nodeS _ _ r, c, h => getK_ok p r c h
theorem putK_ok : ∀ (p : Pos) (t : Tr α) (x : α) (c : Tr α → Prop), Tr.putK p t x c → c (Tr.put p t x)
  | .e, .leaf, _, _, h => h
  | .e, .nodeN _ _, _, _, h => h
  | .e, .nodeS _ _ _, _, _, h => h
  | .l p, .leaf, x, c, h => putK_ok p .leaf x (fun l => c (.nodeN l .leaf)) h
  | .l p, .nodeN l r, x, c, h => putK_ok p l x (fun l => c (.nodeN l r)) h
  | .l p, .nodeS l v r, x, c, h => putK_ok p l x (fun l => c (.nodeS l v r)) h
  | .r p, .leaf, x, c, h => putK_ok p .leaf x (fun r => c (.nodeN .leaf r)) h
  | .r p, .nodeN l r, x, c, h => putK_ok p r x (fun r => c (.nodeN l r)) h
  | .r p, .nodeS l v r, x, c, h => putK_ok p r x (fun r => c (.nodeS l v r)) h
theorem delK_ok : ∀ (p : Pos) (t : Tr α) (c : Tr α → Prop), Tr.delK p t c → c (Tr.del p t)
  | .e, .leaf, _, h => h
  | .l _, .leaf, _, h => h
  | .r _, .leaf, _, h => h
  | .e, .nodeN _ _, _, h => h
  | .e, .nodeS _ _ _, _, h => h
  | .l p, .nodeN l r, c, h => delK_ok p l (fun l => c (.nodeN l r)) h
  | .l p, .nodeS l v r, c, h => delK_ok p l (fun l => c (.nodeS l v r)) h
  | .r p, .nodeN l r, c, h => delK_ok p r (fun r => c (.nodeN l r)) h
  | .r p, .nodeS l v r, c, h => delK_ok p r (fun r => c (.nodeS l v r)) h
end
theorem succK_ok : ∀ (p : Pos) (c : Pos → Prop), Pos.succK p c → c p.succ
  | .e, _, h => h
  | .l _, _, h => h
  | .r p, c, h => succK_ok p (fun p => c (.l p)) h

/-! Values under names. -/
abbrev Env := Pos → Option (Nat × Nat)
def bts (l : List Nat) : ByteArray := ⟨(l.map UInt8.ofNat).toArray⟩
mutual
def VR (ρ : Env) : SV → Value → Prop
  | .bool b, x => x = .bool b
  | .int k n, x => x = .int k n
  | .str l, x => x = .string (bts l) ∧ ∀ b ∈ l, b < 256
  | .ptr b o, x => ∃ a k, ρ b = some (a, k) ∧ x = .pointer (some ⟨a, o, none⟩)
  | .nilp, x => x = .pointer none
  | .slice b o n (.k q), x => ∃ a k, ρ b = some (a, k) ∧ x = .slice (some ⟨a, o, none⟩) n q
  | .slice b o n (.r i), x => ∃ a k, ρ b = some (a, k) ∧ x = .slice (some ⟨a, o, none⟩) n (k - i)
  | .emp b i, x => ∃ a k o, ρ b = some (a, k) ∧ x = .slice (some ⟨a, o, none⟩) 0 (k - i)
  | .nils, x => x = .slice none 0 0
  | .map b, x => ∃ a k, ρ b = some (a, k) ∧ x = .map (some a)
  | .nilm, x => x = .map none
  | .func fn g q, x => ∃ vs ws, LV ρ g vs ∧ LV ρ q ws ∧ x = .func (.func fn) vs.toArray ws.toArray
  | .yld b, x => ∃ a k, ρ b = some (a, k) ∧ x = .func (.yield a) #[] #[]
  | .nilf, x => x = .nilFunc
  | .iface t v, x => ∃ y, VR ρ v y ∧ x = .iface t y
  | .nili, x => x = .nilIface
  | .agg l, x => ∃ vs, LV ρ l vs ∧ x = .agg vs.toArray
  | .tup l, x => ∃ vs, LV ρ l vs ∧ x = .tuple vs.toArray
  | .nil, _ => False
  | .cons _ _, _ => False
def LV (ρ : Env) : SV → List Value → Prop
  | .nil, vs => vs = []
  | .cons h t, vs => ∃ v r, VR ρ h v ∧ LV ρ t r ∧ vs = v :: r
  | .bool _, _ => False
  | .int _ _, _ => False
  | .str _, _ => False
  | .ptr _ _, _ => False
  | .nilp, _ => False
  | .slice _ _ _ _, _ => False
  | .emp _ _, _ => False
  | .nils, _ => False
  | .map _, _ => False
  | .nilm, _ => False
  | .func _ _ _, _ => False
  | .yld _, _ => False
  | .nilf, _ => False
  | .iface _ _, _ => False
  | .nili, _ => False
  | .agg _, _ => False
  | .tup _, _ => False
end
/-- What is named stays named. -/
def Ext (ρ ρ' : Env) : Prop := ∀ p x, ρ p = some x → ρ' p = some x
theorem Ext.refl (ρ : Env) : Ext ρ ρ := fun _ _ h => h
theorem Ext.trans {ρ ρ' ρ'' : Env} (h : Ext ρ ρ') (k : Ext ρ' ρ'') : Ext ρ ρ'' := fun p x e => k p x (h p x e)
mutual
theorem VR.mono {ρ ρ' : Env} (h : Ext ρ ρ') : ∀ (v : SV) (x : Value), VR ρ v x → VR ρ' v x
  | .bool b, x, e => by simpa only [VR] using e
  | .int k n, x, e => by simpa only [VR] using e
  | .str l, x, e => by simpa only [VR] using e
  | .ptr b o, x, e => by simp only [VR] at e ⊢; obtain ⟨a, k, e1, e2⟩ := e; exact ⟨a, k, h _ _ e1, e2⟩
  | .nilp, x, e => by simpa only [VR] using e
  | .slice b o n (.k q), x, e => by simp only [VR] at e ⊢; obtain ⟨a, k, e1, e2⟩ := e; exact ⟨a, k, h _ _ e1, e2⟩
  | .slice b o n (.r i), x, e => by simp only [VR] at e ⊢; obtain ⟨a, k, e1, e2⟩ := e; exact ⟨a, k, h _ _ e1, e2⟩
  | .emp b i, x, e => by simp only [VR] at e ⊢; obtain ⟨a, k, o, e1, e2⟩ := e; exact ⟨a, k, o, h _ _ e1, e2⟩
  | .nils, x, e => by simpa only [VR] using e
  | .map b, x, e => by simp only [VR] at e ⊢; obtain ⟨a, k, e1, e2⟩ := e; exact ⟨a, k, h _ _ e1, e2⟩
  | .nilm, x, e => by simpa only [VR] using e
  | .func fn g q, x, e => by simp only [VR] at e ⊢; obtain ⟨vs, ws, e1, e2, e3⟩ := e; exact ⟨vs, ws, LV.mono h g vs e1, LV.mono h q ws e2, e3⟩
  | .yld b, x, e => by simp only [VR] at e ⊢; obtain ⟨a, k, e1, e2⟩ := e; exact ⟨a, k, h _ _ e1, e2⟩
  | .nilf, x, e => by simpa only [VR] using e
  | .iface t v, x, e => by simp only [VR] at e ⊢; obtain ⟨y, e1, e2⟩ := e; exact ⟨y, VR.mono h v y e1, e2⟩
  | .nili, x, e => by simpa only [VR] using e
  | .agg l, x, e => by simp only [VR] at e ⊢; obtain ⟨vs, e1, e2⟩ := e; exact ⟨vs, LV.mono h l vs e1, e2⟩
  | .tup l, x, e => by simp only [VR] at e ⊢; obtain ⟨vs, e1, e2⟩ := e; exact ⟨vs, LV.mono h l vs e1, e2⟩
  | .nil, x, e => by simp only [VR] at e
  | .cons _ _, x, e => by simp only [VR] at e
theorem LV.mono {ρ ρ' : Env} (h : Ext ρ ρ') : ∀ (v : SV) (x : List Value), LV ρ v x → LV ρ' v x
  | .nil, x, e => by simpa only [LV] using e
  | .cons a t, x, e => by simp only [LV] at e ⊢; obtain ⟨v, r, e1, e2, e3⟩ := e; exact ⟨v, r, VR.mono h a v e1, LV.mono h t r e2, e3⟩
  | .bool _, _, e => by simp only [LV] at e
  | .int _ _, _, e => by simp only [LV] at e
  | .str _, _, e => by simp only [LV] at e
  | .ptr _ _, _, e => by simp only [LV] at e
  | .nilp, _, e => by simp only [LV] at e
  | .slice _ _ _ _, _, e => by simp only [LV] at e
  | .emp _ _, _, e => by simp only [LV] at e
  | .nils, _, e => by simp only [LV] at e
  | .map _, _, e => by simp only [LV] at e
  | .nilm, _, e => by simp only [LV] at e
  | .func _ _ _, _, e => by simp only [LV] at e
  | .yld _, _, e => by simp only [LV] at e
  | .nilf, _, e => by simp only [LV] at e
  | .iface _ _, _, e => by simp only [LV] at e
  | .nili, _, e => by simp only [LV] at e
  | .agg _, _, e => by simp only [LV] at e
  | .tup _, _, e => by simp only [LV] at e
end
theorem LV_nil {ρ : Env} {vs : List Value} : LV ρ .nil vs ↔ vs = [] := by simp only [LV]
theorem LV_cons {ρ : Env} {h t : SV} {vs : List Value} : LV ρ (.cons h t) vs ↔ ∃ v r, VR ρ h v ∧ LV ρ t r ∧ vs = v :: r := by simp only [LV]

/-! The evaluator's parts, read as what they promise. -/
theorem bK_ok {b : Bool} {t e : Prop} (h : bK b t e) : (b = true ∧ t) ∨ (b = false ∧ e) := by cases b with | false => exact .inr ⟨rfl, h⟩ | true => exact .inl ⟨rfl, h⟩
theorem bK_t {b : Bool} {t : Prop} (h : bK b t False) : b = true ∧ t := by cases b with | false => exact h.elim | true => exact ⟨rfl, h⟩
theorem bK_f {b : Bool} {e : Prop} (h : bK b False e) : b = false ∧ e := by cases b with | false => exact ⟨rfl, h⟩ | true => exact h.elim
theorem natK_ok {n : Nat} {c : Nat → Prop} (h : natK n c) : c n := by cases n <;> exact h
theorem intF_ok {i : Int} {c : Int → Prop} (h : intF i c) : c i := by cases i <;> exact natK_ok (c := fun n => c _) h
theorem intN_ok {i : Int} {c : Nat → Prop} (h : intN i c) : ∃ n : Nat, i = n ∧ c n := by cases i with | ofNat n => exact ⟨_, rfl, natK_ok h⟩ | negSucc n => exact h.elim
theorem onBool_ok {c : Bool → Prop} {v : SV} (h : SV.onBool c v) : ∃ b, v = .bool b ∧ c b := by cases v <;> first | exact h.elim | exact ⟨_, rfl, h⟩
theorem onInt_ok {c : IntKind → Int → Prop} {v : SV} (h : SV.onInt c v) : ∃ k n, v = .int k n ∧ c k n := by cases v <;> first | exact h.elim | exact ⟨_, _, rfl, h⟩
theorem onStr_ok {c : List Nat → Prop} {v : SV} (h : SV.onStr c v) : ∃ l, v = .str l ∧ c l := by cases v <;> first | exact h.elim | exact ⟨_, rfl, h⟩
theorem onPtr_ok {c : Pos → Nat → Prop} {v : SV} (h : SV.onPtr c v) : ∃ b o, v = .ptr b o ∧ c b o := by cases v <;> first | exact h.elim | exact ⟨_, _, rfl, h⟩
theorem onSlice_ok {c : Pos → Nat → Nat → Cap → Prop} {v : SV} (h : SV.onSlice c v) : ∃ b o n q, v = .slice b o n q ∧ c b o n q := by cases v <;> first | exact h.elim | exact ⟨_, _, _, _, rfl, h⟩
theorem onMap_ok {c : Pos → Prop} {v : SV} (h : SV.onMap c v) : ∃ b, v = .map b ∧ c b := by cases v <;> first | exact h.elim | exact ⟨_, rfl, h⟩
theorem onFunc_ok {c : Nat → SV → SV → Prop} {v : SV} (h : SV.onFunc c v) : ∃ f g q, v = .func f g q ∧ c f g q := by cases v <;> first | exact h.elim | exact ⟨_, _, _, rfl, h⟩
theorem onYld_ok {c : Pos → Prop} {v : SV} (h : SV.onYld c v) : ∃ b, v = .yld b ∧ c b := by cases v <;> first | exact h.elim | exact ⟨_, rfl, h⟩
theorem onAgg_ok {c : SV → Prop} {v : SV} (h : SV.onAgg c v) : ∃ l, v = .agg l ∧ c l := by cases v <;> first | exact h.elim | exact ⟨_, rfl, h⟩
theorem onTup_ok {c : SV → Prop} {v : SV} (h : SV.onTup c v) : ∃ l, v = .tup l ∧ c l := by cases v <;> first | exact h.elim | exact ⟨_, rfl, h⟩
theorem onCons_ok {c : SV → SV → Prop} {v : SV} (h : SV.onCons c v) : ∃ a t, v = .cons a t ∧ c a t := by cases v <;> first | exact h.elim | exact ⟨_, _, rfl, h⟩
theorem onIface_ok {c : Nat → SV → Prop} {v : SV} (h : SV.onIface c v) : ∃ t x, v = .iface t x ∧ c t x := by cases v <;> first | exact h.elim | exact ⟨_, _, rfl, h⟩
theorem onNil_ok {c : Prop} {v : SV} (h : SV.onNil c v) : v = .nil ∧ c := by cases v <;> first | exact h.elim | exact ⟨rfl, h⟩

theorem nthK_ok : ∀ (l : SV) (o : Nat) (c : SV → Prop), nthK l o c → ∃ v, c v ∧ ∀ ρ vs, LV ρ l vs → ∃ x, vs[o]? = some x ∧ VR ρ v x
  | .cons a t, 0, c, h => ⟨a, h, fun ρ vs e => by obtain ⟨x, r, e1, _, rfl⟩ := LV_cons.1 e; exact ⟨x, rfl, e1⟩⟩
  | .cons a t, o + 1, c, h => by
    obtain ⟨v, hv, hs⟩ := nthK_ok t o c h
    refine ⟨v, hv, fun ρ vs e => ?_⟩
    obtain ⟨x, r, _, e2, rfl⟩ := LV_cons.1 e
    obtain ⟨y, e3, e4⟩ := hs ρ r e2
    exact ⟨y, by simpa using e3, e4⟩
  | .nil, _, _, h => h.elim
  | .bool _, _, _, h => h.elim
  | .int _ _, _, _, h => h.elim
  | .str _, _, _, h => h.elim
  | .ptr _ _, _, _, h => h.elim
  | .nilp, _, _, h => h.elim
  | .slice _ _ _ _, _, _, h => h.elim
  | .emp _ _, _, _, h => h.elim
  | .nils, _, _, h => h.elim
  | .map _, _, _, h => h.elim
  | .nilm, _, _, h => h.elim
  | .func _ _ _, _, _, h => h.elim
  | .yld _, _, _, h => h.elim
  | .nilf, _, _, h => h.elim
  | .iface _ _, _, _, h => h.elim
  | .nili, _, _, h => h.elim
  | .agg _, _, _, h => h.elim
  | .tup _, _, _, h => h.elim
theorem dropK_ok : ∀ (o : Nat) (l : SV) (c : SV → Prop), dropK o l c → ∃ r, c r ∧ ∀ ρ vs, LV ρ l vs → LV ρ r (vs.drop o) ∧ o ≤ vs.length
  | 0, l, c, h => ⟨l, h, fun ρ vs e => ⟨by simpa using e, Nat.zero_le _⟩⟩
  | o + 1, l, c, h => by
    obtain ⟨a, t, rfl, h⟩ := onCons_ok h
    obtain ⟨r, hr, hs⟩ := dropK_ok o t c h
    refine ⟨r, hr, fun ρ vs e => ?_⟩
    obtain ⟨x, r', _, e2, rfl⟩ := LV_cons.1 e
    obtain ⟨e3, e4⟩ := hs ρ r' e2
    exact ⟨by simpa using e3, by simpa using e4⟩
theorem takeK_ok : ∀ (k : Nat) (l : SV) (c : SV → Prop), takeK k l c → ∃ r, c r ∧ ∀ ρ vs, LV ρ l vs → LV ρ r (vs.take k) ∧ k ≤ vs.length
  | 0, l, c, h => ⟨.nil, h, fun ρ vs e => ⟨by simp [LV_nil], Nat.zero_le _⟩⟩
  | k + 1, l, c, h => by
    obtain ⟨a, t, rfl, h⟩ := onCons_ok h
    obtain ⟨r, hr, hs⟩ := takeK_ok k t (fun r => c (.cons a r)) h
    refine ⟨_, hr, fun ρ vs e => ?_⟩
    obtain ⟨x, r', e1, e2, rfl⟩ := LV_cons.1 e
    obtain ⟨e3, e4⟩ := hs ρ r' e2
    exact ⟨LV_cons.2 ⟨x, _, e1, e3, by simp⟩, by simpa using e4⟩
theorem rangeK_ok {l : SV} {o k : Nat} {c : SV → Prop} (h : rangeK l o k c) : ∃ r, c r ∧ ∀ ρ vs, LV ρ l vs → LV ρ r ((vs.drop o).take k) ∧ o + k ≤ vs.length := by
  obtain ⟨r1, h1, s1⟩ := dropK_ok o l _ h
  obtain ⟨r, hr, s2⟩ := takeK_ok k r1 c h1
  refine ⟨r, hr, fun ρ vs e => ?_⟩
  obtain ⟨e1, e2⟩ := s1 ρ vs e
  obtain ⟨e3, e4⟩ := s2 ρ _ e1
  refine ⟨e3, ?_⟩
  rw [List.length_drop] at e4
  omega
theorem overK_ok : ∀ (x l : SV) (c : SV → Prop), overK x l c → ∃ r, c r ∧ ∀ ρ xs vs, LV ρ x xs → LV ρ l vs → LV ρ r (xs ++ vs.drop xs.length) ∧ xs.length ≤ vs.length
  | .nil, l, c, h => ⟨l, h, fun ρ xs vs e1 e2 => by rw [LV_nil] at e1; subst e1; exact ⟨by simpa using e2, Nat.zero_le _⟩⟩
  | .cons a t, l, c, h => by
    obtain ⟨b, u, rfl, h⟩ := onCons_ok h
    obtain ⟨r, hr, hs⟩ := overK_ok t u (fun r => c (.cons a r)) h
    refine ⟨_, hr, fun ρ xs vs e1 e2 => ?_⟩
    obtain ⟨x, r', e3, e4, rfl⟩ := LV_cons.1 e1
    obtain ⟨y, r'', e5, e6, rfl⟩ := LV_cons.1 e2
    obtain ⟨e7, e8⟩ := hs ρ r' r'' e4 e6
    exact ⟨LV_cons.2 ⟨x, _, e3, e7, by simp⟩, by simpa using e8⟩
  | .bool _, _, _, h => h.elim
  | .int _ _, _, _, h => h.elim
  | .str _, _, _, h => h.elim
  | .ptr _ _, _, _, h => h.elim
  | .nilp, _, _, h => h.elim
  | .slice _ _ _ _, _, _, h => h.elim
  | .emp _ _, _, _, h => h.elim
  | .nils, _, _, h => h.elim
  | .map _, _, _, h => h.elim
  | .nilm, _, _, h => h.elim
  | .func _ _ _, _, _, h => h.elim
  | .yld _, _, _, h => h.elim
  | .nilf, _, _, h => h.elim
  | .iface _ _, _, _, h => h.elim
  | .nili, _, _, h => h.elim
  | .agg _, _, _, h => h.elim
  | .tup _, _, _, h => h.elim
theorem setK_ok : ∀ (o : Nat) (x l : SV) (c : SV → Prop), setK o x l c → ∃ r, c r ∧ ∀ ρ xs vs, LV ρ x xs → LV ρ l vs → LV ρ r (vs.take o ++ xs ++ vs.drop (o + xs.length)) ∧ o + xs.length ≤ vs.length
  | 0, x, l, c, h => by
    obtain ⟨r, hr, hs⟩ := overK_ok x l c h
    exact ⟨r, hr, fun ρ xs vs e1 e2 => by have := hs ρ xs vs e1 e2; simpa using this⟩
  | o + 1, x, l, c, h => by
    obtain ⟨b, u, rfl, h⟩ := onCons_ok h
    obtain ⟨r, hr, hs⟩ := setK_ok o x u (fun r => c (.cons b r)) h
    refine ⟨_, hr, fun ρ xs vs e1 e2 => ?_⟩
    obtain ⟨y, r'', e5, e6, rfl⟩ := LV_cons.1 e2
    obtain ⟨e7, e8⟩ := hs ρ xs r'' e1 e6
    have h1 : o + 1 + xs.length = o + xs.length + 1 := by omega
    rw [h1]
    exact ⟨LV_cons.2 ⟨y, _, e5, e7, by simp⟩, by simp only [List.length_cons]; omega⟩
theorem appK_ok : ∀ (l x : SV) (c : SV → Prop), appK l x c → ∃ r, c r ∧ ∀ ρ vs xs, LV ρ l vs → LV ρ x xs → LV ρ r (vs ++ xs)
  | .nil, x, c, h => ⟨x, h, fun ρ vs xs e1 e2 => by rw [LV_nil] at e1; subst e1; simpa using e2⟩
  | .cons a t, x, c, h => by
    obtain ⟨r, hr, hs⟩ := appK_ok t x (fun r => c (.cons a r)) h
    refine ⟨_, hr, fun ρ vs xs e1 e2 => ?_⟩
    obtain ⟨y, r', e3, e4, rfl⟩ := LV_cons.1 e1
    exact LV_cons.2 ⟨y, _, e3, hs ρ r' xs e4 e2, by simp⟩
  | .bool _, _, _, h => h.elim
  | .int _ _, _, _, h => h.elim
  | .str _, _, _, h => h.elim
  | .ptr _ _, _, _, h => h.elim
  | .nilp, _, _, h => h.elim
  | .slice _ _ _ _, _, _, h => h.elim
  | .emp _ _, _, _, h => h.elim
  | .nils, _, _, h => h.elim
  | .map _, _, _, h => h.elim
  | .nilm, _, _, h => h.elim
  | .func _ _ _, _, _, h => h.elim
  | .yld _, _, _, h => h.elim
  | .nilf, _, _, h => h.elim
  | .iface _ _, _, _, h => h.elim
  | .nili, _, _, h => h.elim
  | .agg _, _, _, h => h.elim
  | .tup _, _, _, h => h.elim
theorem lenIs_ok : ∀ (l : SV) (k : Nat) (c : Prop), lenIs l k c → c ∧ ∀ ρ vs, LV ρ l vs → vs.length = k
  | .nil, 0, c, h => ⟨h, fun ρ vs e => by rw [LV_nil] at e; subst e; rfl⟩
  | .nil, _ + 1, _, h => h.elim
  | .cons _ _, 0, _, h => h.elim
  | .cons a t, k + 1, c, h => by
    obtain ⟨hc, hs⟩ := lenIs_ok t k c h
    refine ⟨hc, fun ρ vs e => ?_⟩
    obtain ⟨y, r', e3, e4, rfl⟩ := LV_cons.1 e
    simp [hs ρ r' e4]
  | .bool _, _, _, h => h.elim
  | .int _ _, _, _, h => h.elim
  | .str _, _, _, h => h.elim
  | .ptr _ _, _, _, h => h.elim
  | .nilp, _, _, h => h.elim
  | .slice _ _ _ _, _, _, h => h.elim
  | .emp _ _, _, _, h => h.elim
  | .nils, _, _, h => h.elim
  | .map _, _, _, h => h.elim
  | .nilm, _, _, h => h.elim
  | .func _ _ _, _, _, h => h.elim
  | .yld _, _, _, h => h.elim
  | .nilf, _, _, h => h.elim
  | .iface _ _, _, _, h => h.elim
  | .nili, _, _, h => h.elim
  | .agg _, _, _, h => h.elim
  | .tup _, _, _, h => h.elim
theorem lenK_ok : ∀ (l : SV) (n : Nat) (c : Nat → Prop), lenK l n c → ∃ k, c (n + k) ∧ ∀ ρ vs, LV ρ l vs → vs.length = k
  | .nil, n, c, h => ⟨0, h, fun ρ vs e => by rw [LV_nil] at e; subst e; rfl⟩
  | .cons a t, n, c, h => by
    obtain ⟨k, hc, hs⟩ := lenK_ok t (n + 1) c (natK_ok (c := fun n => lenK t n c) h)
    refine ⟨k + 1, by rw [show n + (k + 1) = n + 1 + k by omega]; exact hc, fun ρ vs e => ?_⟩
    obtain ⟨y, r', e3, e4, rfl⟩ := LV_cons.1 e
    simp [hs ρ r' e4]
  | .bool _, _, _, h => h.elim
  | .int _ _, _, _, h => h.elim
  | .str _, _, _, h => h.elim
  | .ptr _ _, _, _, h => h.elim
  | .nilp, _, _, h => h.elim
  | .slice _ _ _ _, _, _, h => h.elim
  | .emp _ _, _, _, h => h.elim
  | .nils, _, _, h => h.elim
  | .map _, _, _, h => h.elim
  | .nilm, _, _, h => h.elim
  | .func _ _ _, _, _, h => h.elim
  | .yld _, _, _, h => h.elim
  | .nilf, _, _, h => h.elim
  | .iface _ _, _, _, h => h.elim
  | .nili, _, _, h => h.elim
  | .agg _, _, _, h => h.elim
  | .tup _, _, _, h => h.elim
/-- Values of one cell. -/
def One : Value → Prop
  | .agg _ => False
  | .tuple _ => False
  | _ => True
theorem oneK_ok {v : SV} {c : Prop} (h : oneK v c) : c ∧ ∀ ρ x, VR ρ v x → One x := by
  cases v <;> first
    | exact h.elim
    | (refine ⟨h, fun ρ x e => ?_⟩
       try (rename_i q; cases q)
       all_goals
         simp only [VR] at e
         first
           | (subst e; trivial)
           | (obtain ⟨rfl, _⟩ := e; trivial)
           | (obtain ⟨_, _, _, rfl⟩ := e; trivial)
           | (obtain ⟨_, _, _, _, rfl⟩ := e; trivial)
           | (obtain ⟨_, _, rfl⟩ := e; trivial))
theorem onesK_ok : ∀ (l : SV) (c : Prop), onesK l c → c ∧ ∀ ρ vs, LV ρ l vs → ∀ x ∈ vs, One x
  | .nil, c, h => ⟨h, fun ρ vs e => by rw [LV_nil] at e; subst e; simp⟩
  | .cons a t, c, h => by
    obtain ⟨h1, h2⟩ := oneK_ok (v := a) (c := onesK t c) h
    obtain ⟨hc, hs⟩ := onesK_ok t c h1
    refine ⟨hc, fun ρ vs e => ?_⟩
    obtain ⟨y, r', e3, e4, rfl⟩ := LV_cons.1 e
    intro x hx
    rcases List.mem_cons.1 hx with rfl | hx
    · exact h2 ρ _ e3
    · exact hs ρ r' e4 x hx
  | .bool _, _, h => h.elim
  | .int _ _, _, h => h.elim
  | .str _, _, h => h.elim
  | .ptr _ _, _, h => h.elim
  | .nilp, _, h => h.elim
  | .slice _ _ _ _, _, h => h.elim
  | .emp _ _, _, h => h.elim
  | .nils, _, h => h.elim
  | .map _, _, h => h.elim
  | .nilm, _, h => h.elim
  | .func _ _ _, _, h => h.elim
  | .yld _, _, h => h.elim
  | .nilf, _, h => h.elim
  | .iface _ _, _, h => h.elim
  | .nili, _, h => h.elim
  | .agg _, _, h => h.elim
  | .tup _, _, h => h.elim
theorem cellsK_ok {v : SV} {c : SV → Prop} (h : cellsK v c) : ∃ l, c l ∧ ∀ ρ x, VR ρ v x → LV ρ l x.cells.toList := by
  cases v <;> first
    | exact h.elim
    | (refine ⟨_, h, fun ρ x e => ?_⟩
       try (rename_i q; cases q)
       all_goals
         first
           | (simp only [VR] at e; obtain ⟨vs, e1, rfl⟩ := e; simpa [Value.cells] using e1)
           | (refine LV_cons.2 ⟨x, [], e, LV_nil.2 rfl, ?_⟩
              simp only [VR] at e
              first
                | (subst e; rfl)
                | (obtain ⟨rfl, _⟩ := e; rfl)
                | (obtain ⟨_, _, _, rfl⟩ := e; rfl)
                | (obtain ⟨_, _, _, _, rfl⟩ := e; rfl)
                | (obtain ⟨_, _, rfl⟩ := e; rfl)))
theorem repK_ok (z : SV) : ∀ (n : Nat) (c : SV → Prop), repK z n c → ∃ r, c r ∧ ∀ ρ vs, LV ρ z vs → LV ρ r (List.replicate n vs).flatten
  | 0, c, h => ⟨.nil, h, fun ρ vs _ => by simp [LV_nil]⟩
  | n + 1, c, h => by
    obtain ⟨r, hr, hs⟩ := repK_ok z n _ h
    obtain ⟨r', hr', hs'⟩ := appK_ok z r c hr
    refine ⟨r', hr', fun ρ vs e => ?_⟩
    rw [List.replicate_succ, List.flatten_cons]
    exact hs' ρ _ _ e (hs ρ vs e)
end Go.Ev
end
section
set_option linter.all false
namespace Go.Ev
open Go

theorem knN_inj {j k : IntKind} (h : knN j = knN k) : j = k := by cases j <;> cases k <;> first | rfl | (simp [knN] at h)
theorem kK_ok {j k : IntKind} {c : Prop} (h : kK j k c) : j = k ∧ c := by
  obtain ⟨h1, h2⟩ := bK_t h
  exact ⟨knN_inj (Nat.eq_of_beq_eq_true h1), h2⟩
theorem wrap_hi {k : IntKind} {a : Nat} (h : a ≤ hiN k) : k.wrap (.ofNat a) = .ofNat a := by
  cases k <;> simp only [hiN] at h <;> simp only [IntKind.wrap, IntKind.bits, IntKind.signed] <;> simp <;> omega
theorem wrap_lo {k : IntKind} {a : Nat} (h : a < loN k) : k.wrap (.negSucc a) = .negSucc a := by
  cases k <;> simp only [loN] at h <;> first | omega | (simp only [IntKind.wrap, IntKind.bits, IntKind.signed] <;> simp <;> omega)
theorem wrapK_ok {k : IntKind} {i : Int} {c : Int → Prop} (h : wrapK k i c) : c (k.wrap i) := by
  have h := intF_ok h
  cases i with
  | ofNat a =>
    rcases bK_ok h with ⟨h1, h2⟩ | ⟨_, h2⟩
    · rw [wrap_hi (Nat.le_of_ble_eq_true h1)]; exact h2
    · exact intF_ok h2
  | negSucc a =>
    rcases bK_ok h with ⟨h1, h2⟩ | ⟨_, h2⟩
    · rw [wrap_lo (Nat.le_of_ble_eq_true h1)]; exact h2
    · exact intF_ok h2
theorem blt_iff {m n : Nat} : Nat.blt m n = true ↔ m < n := ⟨fun h => Nat.le_of_ble_eq_true h, fun h => Nat.ble_eq_true_of_le h⟩
theorem blt_not {m n : Nat} : Nat.blt m n = false ↔ ¬ m < n := by rw [← blt_iff]; cases Nat.blt m n <;> simp
theorem ble_not {m n : Nat} : Nat.ble m n = false ↔ ¬ m ≤ n := by rw [← Nat.ble_eq]; cases Nat.ble m n <;> simp
theorem beq_not {m n : Nat} : Nat.beq m n = false ↔ ¬ m = n := by rw [← Nat.beq_eq]; cases Nat.beq m n <;> simp
theorem ltK_ok {a b : Int} {c : Bool → Prop} (h : ltK a b c) : c (decide (a < b)) := by
  cases a with
  | ofNat m => cases b with
    | ofNat n => rcases bK_ok h with ⟨h1, h2⟩ | ⟨h1, h2⟩
                 · rw [decide_eq_true (by have := blt_iff.1 h1; simp only [Int.ofNat_eq_natCast]; omega)]; exact h2
                 · rw [decide_eq_false (by have := blt_not.1 h1; simp only [Int.ofNat_eq_natCast]; omega)]; exact h2
    | negSucc n => rw [decide_eq_false (by simp only [Int.ofNat_eq_natCast]; omega)]; exact h
  | negSucc m => cases b with
    | ofNat n => rw [decide_eq_true (by simp only [Int.ofNat_eq_natCast]; omega)]; exact h
    | negSucc n => rcases bK_ok h with ⟨h1, h2⟩ | ⟨h1, h2⟩
                   · rw [decide_eq_true (by have := blt_iff.1 h1; omega)]; exact h2
                   · rw [decide_eq_false (by have := blt_not.1 h1; omega)]; exact h2
theorem eqK_ok {a b : Int} {c : Bool → Prop} (h : eqK a b c) : c (decide (a = b)) := by
  cases a with
  | ofNat m => cases b with
    | ofNat n => rcases bK_ok h with ⟨h1, h2⟩ | ⟨h1, h2⟩
                 · rw [decide_eq_true (by rw [Nat.eq_of_beq_eq_true h1])]; exact h2
                 · rw [decide_eq_false (by have := beq_not.1 h1; simp only [Int.ofNat_eq_natCast]; omega)]; exact h2
    | negSucc n => rw [decide_eq_false (by simp only [Int.ofNat_eq_natCast]; omega)]; exact h
  | negSucc m => cases b with
    | ofNat n => rw [decide_eq_false (by simp only [Int.ofNat_eq_natCast]; omega)]; exact h
    | negSucc n => rcases bK_ok h with ⟨h1, h2⟩ | ⟨h1, h2⟩
                   · rw [decide_eq_true (by rw [Nat.eq_of_beq_eq_true h1])]; exact h2
                   · rw [decide_eq_false (by have := beq_not.1 h1; omega)]; exact h2
theorem notK_ok {c : Bool → Prop} {b : Bool} (h : notK c b) : c (!b) := by cases b <;> exact h
theorem natA_ok {i : Int} {c : Nat → Prop} {d : Prop} (h : natA i c d) : (∃ n : Nat, i = n ∧ c n) ∨ d := by
  cases i with
  | ofNat n => exact .inl ⟨n, rfl, h⟩
  | negSucc n => exact .inr h
theorem hi_lt (k : IntKind) : hiN k < 2 ^ k.bits := by cases k <;> decide
theorem hi_pow (k : IntKind) : ∃ p, hiN k + 1 = 2 ^ p := by
  cases k
  · exact ⟨7, rfl⟩
  · exact ⟨15, rfl⟩
  · exact ⟨31, rfl⟩
  · exact ⟨63, rfl⟩
  · exact ⟨8, rfl⟩
  · exact ⟨16, rfl⟩
  · exact ⟨32, rfl⟩
  · exact ⟨64, rfl⟩
theorem ofInt_nat {n a : Nat} (h : a < 2 ^ n) : (BitVec.ofInt n (a : Int)).toNat = a := by
  rw [BitVec.toNat_ofInt]
  have h1 : ((a : Int) % ((2 ^ n : Nat) : Int)) = ((a % 2 ^ n : Nat) : Int) := by rw [Int.natCast_emod]
  rw [h1, Nat.mod_eq_of_lt h, Int.toNat_natCast]
theorem bits_and {k : IntKind} {m n : Nat} (hm : m ≤ hiN k) (hn : n ≤ hiN k) : bits .and k m n = .ofNat (Nat.land m n) := by
  have h1 := hi_lt k
  simp only [bits, BitVec.toNat_and, ofInt_nat (Nat.lt_of_le_of_lt hm h1), ofInt_nat (Nat.lt_of_le_of_lt hn h1)]
  refine wrap_hi ?_
  exact Nat.le_trans (Nat.and_le_left) hm
theorem bits_or {k : IntKind} {m n : Nat} (hm : m ≤ hiN k) (hn : n ≤ hiN k) : bits .or k m n = .ofNat (Nat.lor m n) := by
  have h1 := hi_lt k
  obtain ⟨p, hp⟩ := hi_pow k
  simp only [bits, BitVec.toNat_or, ofInt_nat (Nat.lt_of_le_of_lt hm h1), ofInt_nat (Nat.lt_of_le_of_lt hn h1)]
  refine wrap_hi ?_
  have := Nat.or_lt_two_pow (x := m) (y := n) (n := p) (by omega) (by omega)
  show m ||| n ≤ hiN k
  omega
theorem bits_xor {k : IntKind} {m n : Nat} (hm : m ≤ hiN k) (hn : n ≤ hiN k) : bits .xor k m n = .ofNat (Nat.xor m n) := by
  have h1 := hi_lt k
  obtain ⟨p, hp⟩ := hi_pow k
  simp only [bits, BitVec.toNat_xor, ofInt_nat (Nat.lt_of_le_of_lt hm h1), ofInt_nat (Nat.lt_of_le_of_lt hn h1)]
  refine wrap_hi ?_
  have := Nat.xor_lt_two_pow (x := m) (y := n) (n := p) (by omega) (by omega)
  show m ^^^ n ≤ hiN k
  omega
theorem bitK_ok {f : BinOp} {g : Nat → Nat → Nat} {k : IntKind} {a b : Int} {c : Int → Prop} (hg : ∀ m n : Nat, m ≤ hiN k → n ≤ hiN k → bits f k m n = .ofNat (g m n))
    (h : bitK f g k a b c) : c (bits f k a b) := by
  rcases natA_ok h with ⟨m, rfl, h⟩ | h
  · rcases natA_ok h with ⟨n, rfl, h⟩ | h
    · rcases bK_ok h with ⟨h1, h⟩ | ⟨_, h⟩
      · rcases bK_ok h with ⟨h2, h⟩ | ⟨_, h⟩
        · rw [hg m n (Nat.le_of_ble_eq_true h1) (Nat.le_of_ble_eq_true h2)]; exact natK_ok (c := fun r => c (.ofNat r)) h
        · exact intF_ok h
      · exact intF_ok h
    · exact intF_ok h
  · exact intF_ok h

/-! Texts. -/
theorem tappK_ok : ∀ (l m : List Nat) (c : List Nat → Prop), tappK l m c → c (l ++ m)
  | [], m, c, h => h
  | a :: l, m, c, h => tappK_ok l m (fun r => c (a :: r)) h
theorem teqK_ok : ∀ (l m : List Nat) (c : Bool → Prop), teqK l m c → c (decide (l = m))
  | [], [], c, h => h
  | [], _ :: _, c, h => h
  | _ :: _, [], c, h => h
  | a :: l, b :: m, c, h => by
    rcases bK_ok h with ⟨h1, h2⟩ | ⟨h1, h2⟩
    · have := teqK_ok l m c h2
      rw [Nat.eq_of_beq_eq_true h1]
      simpa using this
    · rw [decide_eq_false (by have := beq_not.1 h1; simp [this])]; exact h2
theorem tlenK_ok : ∀ (l : List Nat) (n : Nat) (c : Nat → Prop), tlenK l n c → c (n + l.length)
  | [], n, c, h => h
  | a :: l, n, c, h => by
    have := tlenK_ok l (n + 1) c (natK_ok (c := fun n => tlenK l n c) h)
    rw [List.length_cons, show n + (l.length + 1) = n + 1 + l.length by omega]
    exact this
theorem tnthK_ok : ∀ (l : List Nat) (n : Nat) (c : Nat → Prop), tnthK l n c → ∃ a, l[n]? = some a ∧ c a
  | [], _, _, h => h.elim
  | a :: l, 0, c, h => ⟨a, rfl, h⟩
  | a :: l, n + 1, c, h => by obtain ⟨b, h1, h2⟩ := tnthK_ok l n c h; exact ⟨b, by simpa using h1, h2⟩
theorem tdropK_ok : ∀ (n : Nat) (l : List Nat) (c : List Nat → Prop), tdropK n l c → c (l.drop n) ∧ n ≤ l.length
  | 0, l, c, h => ⟨h, Nat.zero_le _⟩
  | n + 1, [], c, h => h.elim
  | n + 1, a :: l, c, h => by have := tdropK_ok n l c h; simpa using this
theorem ttakeK_ok : ∀ (n : Nat) (l : List Nat) (c : List Nat → Prop), ttakeK n l c → c (l.take n) ∧ n ≤ l.length
  | 0, l, c, h => ⟨h, Nat.zero_le _⟩
  | n + 1, [], c, h => h.elim
  | n + 1, a :: l, c, h => by have := ttakeK_ok n l (fun r => c (a :: r)) h; simpa using this
theorem bts_append (l m : List Nat) : bts l ++ bts m = bts (l ++ m) := by
  simp only [bts]
  apply ByteArray.ext
  simp
theorem bts_size (l : List Nat) : (bts l).size = l.length := by simp [bts, ByteArray.size]
theorem bts_list (l : List Nat) : (bts l).toList = l.map UInt8.ofNat := by rw [ByteArray.toList_eq]; rfl
def Byt (l : List Nat) : Prop := ∀ b ∈ l, b < 256
theorem ofNat_inj {a b : Nat} (ha : a < 256) (hb : b < 256) (h : UInt8.ofNat a = UInt8.ofNat b) : a = b := by
  have := congrArg UInt8.toNat h
  simpa [UInt8.toNat_ofNat, Nat.mod_eq_of_lt ha, Nat.mod_eq_of_lt hb] using this
theorem map_inj : ∀ {l m : List Nat}, Byt l → Byt m → l.map UInt8.ofNat = m.map UInt8.ofNat → l = m
  | [], [], _, _, _ => rfl
  | [], _ :: _, _, _, h => by simp at h
  | _ :: _, [], _, _, h => by simp at h
  | a :: l, b :: m, h1, h2, h => by
    simp only [List.map_cons, List.cons.injEq] at h
    rw [ofNat_inj (h1 a (by simp)) (h2 b (by simp)) h.1, map_inj (fun x hx => h1 x (by simp [hx])) (fun x hx => h2 x (by simp [hx])) h.2]
theorem beq_map {l m : List Nat} (h1 : Byt l) (h2 : Byt m) : (l.map UInt8.ofNat == m.map UInt8.ofNat) = decide (l = m) := by
  by_cases h : l = m
  · subst h; simp
  · rw [decide_eq_false h, beq_eq_false_iff_ne]
    exact fun e => h (map_inj h1 h2 e)
theorem tltK_ok : ∀ (l m : List Nat) (c : Bool → Prop), Byt l → Byt m → tltK l m c → c (Op.bytesLess (l.map UInt8.ofNat) (m.map UInt8.ofNat))
  | [], [], c, _, _, h => h
  | [], _ :: _, c, _, _, h => h
  | _ :: _, [], c, _, _, h => h
  | a :: l, b :: m, c, hl, hm, h => by
    have ha := hl a (by simp)
    have hb := hm b (by simp)
    have ih := tltK_ok l m c (fun x hx => hl x (by simp [hx])) (fun x hx => hm x (by simp [hx]))
    simp only [List.map_cons, Op.bytesLess]
    have hlt : (UInt8.ofNat a < UInt8.ofNat b) ↔ a < b := by
      rw [UInt8.lt_iff_toNat_lt]
      simp [UInt8.toNat_ofNat, Nat.mod_eq_of_lt ha, Nat.mod_eq_of_lt hb]
    rcases bK_ok h with ⟨h1, h2⟩ | ⟨h1, h2⟩
    · rw [decide_eq_true (hlt.2 (blt_iff.1 h1))]; simpa using h2
    · rw [decide_eq_false (fun e => blt_not.1 h1 (hlt.1 e))]
      rcases bK_ok h2 with ⟨h3, h4⟩ | ⟨h3, h4⟩
      · rw [Nat.eq_of_beq_eq_true h3]; simpa using ih h4
      · have : (UInt8.ofNat a == UInt8.ofNat b) = false := beq_eq_false_iff_ne.2 fun e => beq_not.1 h3 (ofNat_inj ha hb e)
        rw [this]; simpa using h4
theorem less_total : ∀ (l m : List UInt8), (Op.bytesLess l m || l == m) = !Op.bytesLess m l
  | [], [] => rfl
  | [], _ :: _ => rfl
  | _ :: _, [] => rfl
  | a :: l, b :: m => by
    have ih := less_total l m
    simp only [Op.bytesLess, List.cons_beq_cons]
    rcases Nat.lt_trichotomy a.toNat b.toNat with h | h | h
    · have h1 : a < b := UInt8.lt_iff_toNat_lt.2 h
      have h2 : ¬ b < a := fun e => by have := UInt8.lt_iff_toNat_lt.1 e; omega
      have h3 : (a == b) = false := beq_eq_false_iff_ne.2 fun e => by rw [e] at h; omega
      have h4 : (b == a) = false := beq_eq_false_iff_ne.2 fun e => by rw [e] at h; omega
      simp [h1, h2, h3, h4]
    · have h0 : a = b := UInt8.toNat_inj.1 h
      subst h0
      simpa using ih
    · have h1 : ¬ a < b := fun e => by have := UInt8.lt_iff_toNat_lt.1 e; omega
      have h2 : b < a := UInt8.lt_iff_toNat_lt.2 h
      have h3 : (a == b) = false := beq_eq_false_iff_ne.2 fun e => by rw [e] at h; omega
      simp [h1, h2, h3]

/-! Operands. -/
structure EvR (ρ : Env) (fr : Fm) (e : Operand → Value) : Prop where
  tmp : ∀ p v, Tr.get p fr = some v → VR ρ v (e (.tmp p.nat))
  const : ∀ v, e (.const v) = v
  func : ∀ f, e (.func f) = .func (.func f) #[] #[]
theorem EvR.mono {ρ ρ' : Env} {fr : Fm} {e : Operand → Value} (h : EvR ρ fr e) (k : Ext ρ ρ') : EvR ρ' fr e := ⟨fun p v hp => VR.mono k _ _ (h.tmp p v hp), h.const, h.func⟩
theorem map_toNat (s : ByteArray) : bts (s.data.toList.map UInt8.toNat) = s := by
  apply ByteArray.ext
  simp [bts, List.map_map, Function.comp_def]
theorem ofVs_ok {f : Value → Option SV} (hf : ∀ v sv, f v = some sv → ∀ ρ, VR ρ sv v) : ∀ (l : List Value) (s : SV), ofVs f l = some s → ∀ ρ, LV ρ s l
  | [], s, h, ρ => by simp only [ofVs, Option.some.injEq] at h; subst h; exact LV_nil.2 rfl
  | v :: r, s, h, ρ => by
    simp only [ofVs] at h
    split at h
    · rename_i x y hx hy
      injection h with h; subst h
      exact LV_cons.2 ⟨v, r, hf v x hx ρ, ofVs_ok hf r y hy ρ, rfl⟩
    · cases h
theorem ofV_ok : ∀ (n : Nat) (v : Value) (s : SV), ofV n v = some s → ∀ ρ, VR ρ s v
  | 0, _, _, h, _ => by simp [ofV] at h
  | n + 1, v, s, h, ρ => by
    have ih := ofVs_ok (ofV_ok n)
    unfold ofV at h
    split at h
    · injection h with h; subst h; simp [VR]
    · injection h with h; subst h; simp [VR]
    · injection h with h; subst h
      simp only [VR, map_toNat, true_and]
      intro b hb
      obtain ⟨x, _, rfl⟩ := List.mem_map.1 hb
      exact x.toNat_lt
    · injection h with h; subst h; simp [VR]
    · injection h with h; subst h; simp [VR]
    · injection h with h; subst h; simp [VR]
    · injection h with h; subst h; simp [VR]
    · injection h with h; subst h; simp [VR]
    · rename_i cs
      cases h1 : ofVs (ofV n) cs.toList with
      | none => rw [h1] at h; cases h
      | some l => rw [h1] at h; injection h with h; subst h; simp only [VR]; exact ⟨cs.toList, ih _ _ h1 ρ, by simp⟩
    · rename_i cs
      cases h1 : ofVs (ofV n) cs.toList with
      | none => rw [h1] at h; cases h
      | some l => rw [h1] at h; injection h with h; subst h; simp only [VR]; exact ⟨cs.toList, ih _ _ h1 ρ, by simp⟩
    · rename_i t v
      cases h1 : ofV n v with
      | none => rw [h1] at h; cases h
      | some x => rw [h1] at h; injection h with h; subst h; simp only [VR]; exact ⟨v, ofV_ok n v x h1 ρ, rfl⟩
    · rename_i f l q
      split at h
      · rename_i x y hx hy
        injection h with h; subst h; simp only [VR]
        exact ⟨l.toList, q.toList, ih _ _ hx ρ, ih _ _ hy ρ, by simp⟩
      · cases h
    · cases h
theorem evK_ok {X : Operand} {x : LX} {fr : Fm} {c : SV → Prop} (hx : lowX X = some x) (h : evK x fr c) : ∃ v, c v ∧ ∀ ρ e, EvR ρ fr e → VR ρ v (e X) := by
  cases X with
  | tmp t =>
    simp only [lowX, Option.some.injEq] at hx; subst hx
    obtain ⟨v, h1, h2⟩ := getK_ok _ _ _ h
    exact ⟨v, h2, fun ρ e he => by have := he.tmp _ v h1; rwa [Pos.nat_of] at this⟩
  | const u =>
    simp only [lowX] at hx
    cases h1 : ofV 3 u with
    | none => rw [h1] at hx; cases hx
    | some s => rw [h1] at hx; injection hx with hx; subst hx; exact ⟨s, h, fun ρ e he => by rw [he.const]; exact ofV_ok 3 u s h1 ρ⟩
  | func f =>
    simp only [lowX, Option.some.injEq] at hx; subst hx
    exact ⟨_, h, fun ρ e he => by rw [he.func]; simp only [VR]; exact ⟨[], [], LV_nil.2 rfl, LV_nil.2 rfl, rfl⟩⟩
  | global g => cases hx
theorem evsK_ok : ∀ (X : List Operand) (x : LXs) (fr : Fm) (c : SV → Prop), lowXs X = some x → evsK x fr c → ∃ v, c v ∧ ∀ ρ e, EvR ρ fr e → LV ρ v (X.map e)
  | [], x, fr, c, hx, h => by
    simp only [lowXs, Option.some.injEq] at hx; subst hx
    exact ⟨.nil, h, fun ρ e _ => LV_nil.2 rfl⟩
  | y :: r, x, fr, c, hx, h => by
    simp only [lowXs] at hx
    split at hx
    · rename_i a l ha hl
      injection hx with hx; subst hx
      obtain ⟨v, h1, h2⟩ := evK_ok ha h
      obtain ⟨u, h3, h4⟩ := evsK_ok r l fr (fun r => c (.cons v r)) hl h1
      exact ⟨_, h3, fun ρ e he => LV_cons.2 ⟨_, _, h2 ρ e he, h4 ρ e he, rfl⟩⟩
    · cases hx
end Go.Ev
end
section
set_option linter.all false
set_option linter.unusedVariables false
set_option linter.unusedSimpArgs false
namespace Go.Ev
open Go

/-! Memory. -/
def ESR (ρ : Env) : ES → List MapEntry → Prop
  | .nil, E => E = []
  | .cons k v b r, E => ∃ e E', VR ρ k e.key ∧ VR ρ v e.val ∧ e.born = b ∧ ESR ρ r E' ∧ E = e :: E'
theorem ESR.mono {ρ ρ' : Env} (h : Ext ρ ρ') : ∀ (es : ES) (E : List MapEntry), ESR ρ es E → ESR ρ' es E
  | .nil, _, e => e
  | .cons k v b r, E, ⟨e, E', h1, h2, h3, h4, h5⟩ => ⟨e, E', h1.mono h _ _, h2.mono h _ _, h3, ESR.mono h r E' h4, h5⟩
def RT (ρ : Env) (N : Nat) (fr : Fm) (a : Array Value) : Prop := a.size = N ∧ ∀ p v, Tr.get p fr = some v → ∃ x, a[p.nat]? = some x ∧ VR ρ v x
theorem RT.mono {ρ ρ' : Env} (h : Ext ρ ρ') {N : Nat} {fr : Fm} {a : Array Value} (e : RT ρ N fr a) : RT ρ' N fr a :=
  ⟨e.1, fun p v hp => let ⟨x, h1, h2⟩ := e.2 p v hp; ⟨x, h1, VR.mono h _ _ h2⟩⟩
def JC : LJ → Option Code
  | .no => none
  | .ret => some .ret
  | .exit id => some (.exit id)
  | .goto l => some (.goto l)
def SL : LS → LoopState
  | .ready => .ready
  | .busy => .busy
  | .done => .done
  | .gone => .exhausted
def LDR (ρ : Env) : LD → List Deferred → Prop
  | .nil, D => D = []
  | .coll b r, D => ∃ a k D', ρ b = some (a, k) ∧ LDR ρ r D' ∧ D = { target := .collected a, args := #[] } :: D'
  | .call fn l r, D => ∃ xs ys D', LV ρ l (xs ++ ys) ∧ LDR ρ r D' ∧ D = { target := .fn (.func fn) ys.toArray, args := xs.toArray } :: D'
theorem LDR.mono {ρ ρ' : Env} (h : Ext ρ ρ') : ∀ (l : LD) (D : List Deferred), LDR ρ l D → LDR ρ' l D
  | .nil, _, e => e
  | .coll b r, D, ⟨a, k, D', h1, h2, h3⟩ => ⟨a, k, D', h _ _ h1, LDR.mono h r D' h2, h3⟩
  | .call fn l r, D, ⟨xs, ys, D', h1, h2, h3⟩ => ⟨xs, ys, D', LV.mono h _ _ h1, LDR.mono h r D' h2, h3⟩
def Thaw (n : Nat) (f : Nat × Nat) : Prop := ∀ i, i < n → ¬ (f.1 ≤ i ∧ i < f.2)
section
variable (P : Program)
def OR (ρ : Env) (k : Nat) : SO → Obj → Prop
  | .cells l, ob => ∃ (vs : List Value) (T : TypeId) (f : Nat × Nat), ob = .cells vs.toArray T f ∧ LV ρ l vs ∧ Thaw vs.length f
  | .grow l z, ob => ∃ (vs zs : List Value) (T : TypeId) (f : Nat × Nat), ob = .cells (vs ++ zs).toArray T f ∧ LV ρ l vs ∧ Thaw (vs ++ zs).length f ∧ (vs ++ zs).length = k * z
  | .mp es clk, ob => ∃ E : List MapEntry, ob = .map E.toArray clk ∧ ESR ρ es E
  | .mit p since seen last, ob => ∃ a k', ρ p = some (a, k') ∧ ob = .mapIter (some a) since seen.toArray last
  | .mi0, ob => ∃ since seen last, ob = .mapIter none since seen last
  | .sit s pos, ob => ob = .stringIter (bts s) pos ∧ Byt s
  | .loop st pd fr ps a b, ob => ∃ L : Loop, ob = .loop L ∧ L.state = SL st ∧ L.pending = JC pd ∧ RT ρ L.tmps.size fr L.tmps ∧ lowPs' L.tmps.size L.params.toList = some ps ∧ lowC P L.tmps.size L.assign = a ∧ lowC P L.tmps.size L.body = b
  | .defd l, ob => ∃ D, ob = .deferred (some D) ∧ LDR ρ l D
  | .gone, _ => True
theorem OR.mono {ρ ρ' : Env} (h : Ext ρ ρ') {k : Nat} {o : SO} {ob : Obj} (e : OR P ρ k o ob) : OR P ρ' k o ob := by
  cases o with
  | cells l => obtain ⟨vs, T, f, h1, h2, h3⟩ := e; exact ⟨vs, T, f, h1, LV.mono h _ _ h2, h3⟩
  | grow l z => obtain ⟨vs, zs, T, f, h1, h2, h3⟩ := e; exact ⟨vs, zs, T, f, h1, LV.mono h _ _ h2, h3⟩
  | mp es clk => obtain ⟨E, h1, h2⟩ := e; exact ⟨E, h1, ESR.mono h _ _ h2⟩
  | mit p since seen last => obtain ⟨a, k', h1, h2⟩ := e; exact ⟨a, k', h _ _ h1, h2⟩
  | mi0 => exact e
  | sit s pos => exact e
  | loop st pd fr ps a b => obtain ⟨L, h1, h2, h3, h4, h5⟩ := e; exact ⟨L, h1, h2, h3, RT.mono h h4, h5⟩
  | defd l => obtain ⟨D, h1, h2⟩ := e; exact ⟨D, h1, LDR.mono h _ _ h2⟩
  | gone => trivial
/-- Memory under names: what stands at a name is in the world's block of that name. -/
structure Rel (ρ : Env) (n : Pos) (m : Mem) (w : World) : Prop where
  inj : ∀ p q a k k', Tr.get p m ≠ none → Tr.get q m ≠ none → ρ p = some (a, k) → ρ q = some (a, k') → p = q
  mem : ∀ p o, Tr.get p m = some o → ∃ a k ob, ρ p = some (a, k) ∧ w.heap[a]? = some ob ∧ OR P ρ k o ob
variable {P}
theorem Rel.at {ρ : Env} {n : Pos} {m : Mem} {w : World} (h : Rel P ρ n m w) {p : Pos} {o : SO} {a k : Nat} (hp : Tr.get p m = some o) (hr : ρ p = some (a, k)) : ∃ ob, w.heap[a]? = some ob ∧ OR P ρ k o ob := by
  obtain ⟨a', k', ob, h1, h2, h3⟩ := h.mem p o hp
  rw [hr] at h1; injection h1 with h1; injection h1 with h4 h5; subst h4 h5
  exact ⟨ob, h2, h3⟩
/-- The rows of cells that a name stands for. -/
theorem Rel.row {ρ : Env} {n : Pos} {m : Mem} {w : World} (h : Rel P ρ n m w) {p : Pos} {o : SO} {a k : Nat} (hp : Tr.get p m = some o) (hr : ρ p = some (a, k)) {c : SV → Prop} (ho : SO.onRow c o) :
    ∃ l, c l ∧ ∃ vs zs T f, w.heap[a]? = some (.cells (vs ++ zs).toArray T f) ∧ LV ρ l vs ∧ Thaw (vs ++ zs).length f := by
  obtain ⟨ob, h1, h2⟩ := h.at hp hr
  cases o <;> first | exact ho.elim | skip
  · obtain ⟨vs, T, f, rfl, h3, h4⟩ := h2; exact ⟨_, ho, vs, [], T, f, by simpa using h1, h3, by simpa using h4⟩
  · obtain ⟨vs, zs, T, f, rfl, h3, h4, _⟩ := h2; exact ⟨_, ho, vs, zs, T, f, h1, h3, h4⟩
end
theorem onRow_ok {c : SV → Prop} {o : SO} (h : SO.onRow c o) : ∃ l, c l ∧ (o = .cells l ∨ ∃ z, o = .grow l z) := by
  cases o <;> first | exact h.elim | exact ⟨_, h, .inl rfl⟩ | exact ⟨_, h, .inr ⟨_, rfl⟩⟩
theorem onGrow_ok {c : SV → Nat → Prop} {o : SO} (h : SO.onGrow c o) : ∃ l z, o = .grow l z ∧ c l z := by
  cases o <;> first | exact h.elim | exact ⟨_, _, rfl, h⟩
theorem onMp_ok {c : ES → Nat → Prop} {o : SO} (h : SO.onMp c o) : ∃ es t, o = .mp es t ∧ c es t := by
  cases o <;> first | exact h.elim | exact ⟨_, _, rfl, h⟩
theorem onMit_ok {c : Pos → Nat → List Nat → Nat → Prop} {o : SO} (h : SO.onMit c o) : ∃ p a s l, o = .mit p a s l ∧ c p a s l := by
  cases o <;> first | exact h.elim | exact ⟨_, _, _, _, rfl, h⟩

/-! Types. -/
section
variable {P : Program}
theorem szT_run {t : TypeId} {k : Nat} (h : szT P t = some k) (w : World) : (sizeOf t).run P w = .ok k w := by
  unfold szT at h
  cases h1 : P.info? t with
  | none => rw [h1] at h; cases h
  | some i => rw [h1] at h; injection h with h; subst h; simp [sizeOf, typeInfo, h1]
theorem byT_run {t : TypeId} {k : Nat} (h : byT P t = some k) (w : World) : ∃ i, (typeInfo t).run P w = .ok i w ∧ i.bytes = k := by
  unfold byT at h
  cases h1 : P.info? t with
  | none => rw [h1] at h; cases h
  | some i => rw [h1] at h; injection h with h; exact ⟨i, by simp [typeInfo, h1], h⟩
theorem zcT_info {t : TypeId} {s : SV} (h : zcT P t = some s) : ∃ i v, P.info? t = some i ∧ i.zero = some v ∧ v.cells.size = i.size ∧ ∀ ρ, LV ρ s v.cells.toList := by
  unfold zcT at h
  split at h
  · rename_i i h1
    split at h
    · rename_i v h2
      split at h
      · rename_i h3; exact ⟨i, v, h1, h2, h3, ofVs_ok (ofV_ok 3) _ _ h⟩
      · cases h
    · cases h
  · cases h
theorem zcT_run {t : TypeId} {s : SV} (h : zcT P t = some s) : ∃ v : Value, (∀ w, (zeroValue t).run P w = .ok v w) ∧ ∀ ρ, LV ρ s v.cells.toList := by
  obtain ⟨i, v, h1, h2, _, h3⟩ := zcT_info h
  exact ⟨v, fun w => by simp [zeroValue, typeInfo, h1, h2], h3⟩
theorem zvT_run {t : TypeId} {s : SV} (h : zvT P t = some s) : ∃ v : Value, (∀ w, (zeroValue t).run P w = .ok v w) ∧ ∀ ρ, VR ρ s v := by
  unfold zvT at h
  split at h
  · rename_i h1
    exact ⟨_, fun w => by simp [zeroValue, typeInfo, h1], ofV_ok 3 _ _ h⟩
  · cases h
/-- How a type's values are read: one cell, or so many. -/
theorem rdT_run {t : TypeId} {rd : Rd} (h : rdT P t = some rd) : (rd = .one ∧ ∀ w, (isAgg t).run P w = .ok false w) ∨ ∃ k, rd = .many k ∧ (∀ w, (isAgg t).run P w = .ok true w) ∧ ∀ w, (sizeOf t).run P w = .ok k w := by
  unfold rdT at h
  split at h
  · rename_i h1
    cases h2 : szT P t with
    | none => rw [h2] at h; cases h
    | some k => rw [h2] at h; injection h with h; subst h; exact .inr ⟨k, rfl, fun w => by simp [isAgg, run_underlying h1], szT_run h2⟩
  · rename_i h1
    cases h2 : szT P t with
    | none => rw [h2] at h; cases h
    | some k => rw [h2] at h; injection h with h; subst h; exact .inr ⟨k, rfl, fun w => by simp [isAgg, run_underlying h1], szT_run h2⟩
  · rename_i d h2 h3 h1
    injection h with h; subst h
    refine .inl ⟨rfl, fun w => ?_⟩
    simp only [isAgg, Sem.run_bind, run_underlying h1, Result.andThen_ok]
    cases d <;> first | rfl | exact absurd rfl (h2 _) | exact absurd rfl (h3 _ _)
  · cases h

theorem add_lit (b o i : Nat) : (⟨b, o, none⟩ : Addr).add i = ⟨b, o + i, none⟩ := by unfold Addr.add; split <;> simp_all
theorem run_loadCellsFrom {w : World} {b o : Nat} : ∀ (k i : Nat) (vs : List Value) (acc : Array Value), vs.length = k → (∀ j x, vs[j]? = some x → w.cell? ⟨b, o + (i + j), none⟩ = some x) →
    (loadCellsFrom ⟨b, o, none⟩ i k acc).run P w = .ok (acc ++ vs.toArray) w
  | 0, _, vs, acc, hl, _ => by
    have : vs = [] := List.eq_nil_of_length_eq_zero hl
    subst this
    simp [loadCellsFrom]
  | k + 1, i, vs, acc, hl, hc => by
    cases vs with
    | nil => simp at hl
    | cons x r =>
      have h0 := hc 0 x (by simp)
      have := run_loadCellsFrom k (i + 1) r (acc.push x) (by simpa using hl) (fun j y hy => by have := hc (j + 1) y (by simpa using hy); rwa [show i + (j + 1) = i + 1 + j by omega] at this)
      simp only [loadCellsFrom, load, add_lit, Sem.run_bind, Sem.run, Nat.add_zero] at h0 ⊢
      simp only [h0, Result.andThen_ok, this]
      simp
theorem run_loadRow {w : World} {a o k : Nat} {cs : List Value} {T : TypeId} {f : Nat × Nat} (hw : w.heap[a]? = some (.cells cs.toArray T f)) (hk : o + k ≤ cs.length) :
    (loadCells ⟨a, o, none⟩ k).run P w = .ok ((cs.drop o).take k).toArray w := by
  have := run_loadCellsFrom (P := P) (w := w) (b := a) (o := o) k 0 ((cs.drop o).take k) #[] (by simp; omega) (fun j x hx => by
    rw [List.getElem?_take] at hx
    split at hx
    · rw [List.getElem?_drop] at hx
      simp [World.cell?, hw, hx]
    · cases hx)
  simpa [loadCells] using this

/-- An operation computes or reads v. -/
def QOk (P : Program) (fr : Fm) (m : Mem) (op : Op) (v : SV) : Prop :=
  ∀ ρ n w e d ty pos af gd, Rel P ρ n m w → EvR ρ fr e → ∃ x, VR ρ v x ∧ (execOp e ⟨d, op, ty, pos, af, gd⟩).run P w = .ok (.value x) w

variable {fr : Fm} {m : Mem} {c : SV → Prop}
theorem q_mv {X : Operand} {x : LX} (hx : lowX X = some x) (h : qMv x fr m c) : ∃ v, c v ∧ QOk P fr m (.move X) v ∧ QOk P fr m (.assign X) v := by
  obtain ⟨v, h1, h2⟩ := evK_ok hx h
  exact ⟨v, h1, fun ρ n w e d ty pos af gd _ he => ⟨_, h2 ρ e he, rfl⟩, fun ρ n w e d ty pos af gd _ he => ⟨_, h2 ρ e he, rfl⟩⟩
theorem q_pick {B X Y : Operand} {b x y : LX} (hb : lowX B = some b) (hx : lowX X = some x) (hy : lowX Y = some y) (h : qPick b x y fr m c) : ∃ v, c v ∧ QOk P fr m (.pick B X Y) v := by
  obtain ⟨v, h1, h2⟩ := evK_ok hb h
  obtain ⟨t, rfl, h3⟩ := onBool_ok h1
  rcases bK_ok h3 with ⟨rfl, h4⟩ | ⟨rfl, h4⟩
  · obtain ⟨u, h5, h6⟩ := evK_ok hx h4
    refine ⟨u, h5, fun ρ n w e d ty pos af gd _ he => ⟨_, h6 ρ e he, ?_⟩⟩
    have := h2 ρ e he
    simp only [VR] at this
    simp only [execOp, this]; rfl
  · obtain ⟨u, h5, h6⟩ := evK_ok hy h4
    refine ⟨u, h5, fun ρ n w e d ty pos af gd _ he => ⟨_, h6 ρ e he, ?_⟩⟩
    have := h2 ρ e he
    simp only [VR] at this
    simp only [execOp, this]; rfl
theorem q_chk {X : Operand} {x : LX} (hx : lowX X = some x) (h : qChk x fr m c) : ∃ v, c v ∧ QOk P fr m (.nilCheck X) v := by
  obtain ⟨v, h1, h2⟩ := evK_ok hx h
  refine ⟨v, by cases v <;> first | exact h1.elim | exact h1, fun ρ n w e d ty pos af gd _ he => ⟨_, h2 ρ e he, ?_⟩⟩
  have := h2 ρ e he
  cases v <;> first | exact h1.elim | skip
  · simp only [VR] at this; obtain ⟨a, k, _, h3⟩ := this; simp only [execOp, h3]; rfl
  · simp only [VR] at this; obtain ⟨vs, ws, _, _, h3⟩ := this; simp only [execOp, h3]; rfl
  · simp only [VR] at this; obtain ⟨a, k, _, h3⟩ := this; simp only [execOp, h3]; rfl
theorem q_ifc {X : Operand} {x : LX} {t : TypeId} {d : TypeDesc} (ht : P.underlying t = some d) (hd : ∀ ms, d ≠ .interface ms) (hx : lowX X = some x) (h : qIfc t x fr m c) : ∃ v, c v ∧ QOk P fr m (.makeInterface t X) v := by
  obtain ⟨v, h1, h2⟩ := evK_ok hx h
  refine ⟨_, h1, fun ρ n w e d' ty pos af gd _ he => ⟨.iface t (e X), by simp only [VR]; exact ⟨_, h2 ρ e he, rfl⟩, ?_⟩⟩
  have : (Instr.makeInterface t (e X)).run P w = .ok (.iface t (e X)) w := by
    simp only [Instr.makeInterface, Sem.run_bind, run_underlying ht, Result.andThen_ok]
    cases d <;> first | rfl | exact absurd rfl (hd _)
  simp only [execOp, Sem.run_bind, this, Result.andThen_ok]; rfl
theorem q_fun {F : Nat} {L Q : Array Operand} {l q : LXs} (hl : lowXs L.toList = some l) (hq : lowXs Q.toList = some q) (h : qFun F l q fr m c) : ∃ v, c v ∧ QOk P fr m (.makeFunc (.func F) L Q) v := by
  obtain ⟨v, h1, h2⟩ := evsK_ok _ _ _ _ hl h
  obtain ⟨u, h3, h4⟩ := evsK_ok _ _ _ _ hq h1
  refine ⟨_, h3, fun ρ n w e d ty pos af gd _ he => ⟨_, by simp only [VR]; exact ⟨_, _, h2 ρ e he, h4 ρ e he, rfl⟩, ?_⟩⟩
  simp only [execOp, Instr.makeFunc, ← Array.toList_map, Array.toArray_toList]; rfl
theorem q_ext {X : Operand} {x : LX} {i : Nat} (hx : lowX X = some x) (h : qExt x i fr m c) : ∃ v, c v ∧ QOk P fr m (.extract X i) v := by
  obtain ⟨v, h1, h2⟩ := evK_ok hx h
  obtain ⟨l, rfl, h3⟩ := onTup_ok h1
  obtain ⟨u, h4, h5⟩ := nthK_ok _ _ _ h3
  refine ⟨u, h4, fun ρ n w e d ty pos af gd _ he => ?_⟩
  have := h2 ρ e he
  simp only [VR] at this
  obtain ⟨vs, h6, h7⟩ := this
  obtain ⟨y, h8, h9⟩ := h5 ρ vs h6
  refine ⟨y, h9, ?_⟩
  simp only [execOp, h7, Instr.extract]
  simp [h8]
theorem partK_ok {rd : Rd} {t : TypeId} (hr : rdT P t = some rd) {l : SV} {o : Nat} (h : partK rd l o c) : ∃ v, c v ∧ ∀ ρ vs, LV ρ l vs → ∃ x, VR ρ v x ∧ (∀ w, (part t vs.toArray o).run P w = .ok x w) ∧
    (∀ w a zs T f, w.heap[a]? = some (.cells (vs ++ zs).toArray T f) → (loadVar t ⟨a, o, none⟩).run P w = .ok x w) := by
  rcases rdT_run hr with ⟨rfl, h1⟩ | ⟨k, rfl, h1, h2⟩
  · obtain ⟨v, h3, h4⟩ := nthK_ok _ _ _ h
    refine ⟨v, h3, fun ρ vs hl => ?_⟩
    obtain ⟨x, h5, h6⟩ := h4 ρ vs hl
    refine ⟨x, h6, fun w => by simp [part, h1, h5], fun w a zs T f hw => ?_⟩
    have h7 : w.cell? ⟨a, o, none⟩ = some x := by
      have : (vs ++ zs)[o]? = some x := by rw [List.getElem?_append_left (List.getElem?_eq_some_iff.1 h5).1]; exact h5
      simp [World.cell?, hw, this]
    simp [loadVar, h1, load, Sem.run, h7]
  · obtain ⟨r, h3, h4⟩ := rangeK_ok (c := fun x => c (.agg x)) h
    refine ⟨_, h3, fun ρ vs hl => ?_⟩
    obtain ⟨h5, h6⟩ := h4 ρ vs hl
    refine ⟨.agg ((vs.drop o).take k).toArray, by simp only [VR]; exact ⟨_, h5, rfl⟩, fun w => ?_, fun w a zs T f hw => ?_⟩
    · simp [part, h1, h2]
    · have := run_loadRow (P := P) (o := o) (k := k) hw (by simp; omega)
      have h7 : ((vs ++ zs).drop o).take k = (vs.drop o).take k := by
        rw [List.drop_append_of_le_length (by omega), List.take_append_of_le_length (by simp; omega)]
      simp [loadVar, h1, h2, this, h7]
theorem q_load {X : Operand} {x : LX} {t : TypeId} {rd : Rd} (hr : rdT P t = some rd) (hx : lowX X = some x) (h : qLoad rd x fr m c) : ∃ v, c v ∧ QOk P fr m (.load t X) v := by
  obtain ⟨v, h1, h2⟩ := evK_ok hx h
  obtain ⟨b, o, rfl, h3⟩ := onPtr_ok h1
  obtain ⟨ob, h4, h5⟩ := getK_ok _ _ _ h3
  obtain ⟨l, h6, h6'⟩ := onRow_ok h5
  obtain ⟨u, h7, h8⟩ := partK_ok hr h6
  refine ⟨u, h7, fun ρ n w e d ty pos af gd hm he => ?_⟩
  have := h2 ρ e he
  simp only [VR] at this
  obtain ⟨a, k, h9, h10⟩ := this
  obtain ⟨l', hl', vs, zs, T, f, h11, h12, _⟩ := hm.row (c := fun r => r = l) h4 h9 (by rcases h6' with rfl | ⟨z, rfl⟩ <;> rfl)
  subst hl'
  obtain ⟨y, h13, _, h14⟩ := h8 ρ vs h12
  refine ⟨y, h13, ?_⟩
  simp only [execOp, h10, Instr.loadAt, Instr.sureAddr, Sem.run_bind, Sem.run_pure, Result.andThen_ok, h14 w a zs T f h11]
theorem q_fld {X : Operand} {x : LX} {s : TypeId} {i : Nat} {f : Field} {rd : Rd} (hf : fldT P s i = some f) (hr : rdT P f.type = some rd) (hx : lowX X = some x) (h : qFld f.offset rd x fr m c) : ∃ v, c v ∧ QOk P fr m (.field s X i) v := by
  obtain ⟨v, h1, h2⟩ := evK_ok hx h
  obtain ⟨l, rfl, h3⟩ := onAgg_ok h1
  obtain ⟨u, h7, h8⟩ := partK_ok hr h3
  refine ⟨u, h7, fun ρ n w e d ty pos af gd hm he => ?_⟩
  have := h2 ρ e he
  simp only [VR] at this
  obtain ⟨vs, h9, h10⟩ := this
  obtain ⟨y, h13, h14, _⟩ := h8 ρ vs h9
  refine ⟨y, h13, ?_⟩
  unfold fldT at hf
  split at hf
  · rename_i fs hu
    simp only [execOp, h10, Instr.field, Sem.run_bind, run_underlying hu, Result.andThen_ok, hf, asAgg, Sem.run_pure, h14 w]
  · cases hf
theorem q_fa {X : Operand} {x : LX} {s : TypeId} {i k : Nat} {f : Field} (hf : fldT P s i = some f) (hr : szT P f.type = some (k + 1)) (hx : lowX X = some x) (h : qFa f.offset x fr m c) : ∃ v, c v ∧ QOk P fr m (.fieldAddr s X i) v := by
  obtain ⟨v, h1, h2⟩ := evK_ok hx h
  obtain ⟨b, o, rfl, h3⟩ := onPtr_ok h1
  have h3 := natK_ok h3
  refine ⟨_, h3, fun ρ n w e d ty pos af gd hm he => ?_⟩
  have := h2 ρ e he
  simp only [VR] at this
  obtain ⟨a, k, h9, h10⟩ := this
  refine ⟨.pointer (some ⟨a, o + f.offset, none⟩), by simp only [VR]; exact ⟨a, k, h9, rfl⟩, ?_⟩
  unfold fldT at hf
  split at hf
  · rename_i fs hu
    simp [execOp, h10, Instr.fieldAt, run_underlying hu, hf, Instr.sureAddr, fieldPlace, szT_run hr, add_lit]
  · cases hf
end
end Go.Ev
end
section
set_option linter.all false
set_option linter.unusedVariables false
set_option linter.unusedSimpArgs false
namespace Go.Ev
open Go
section
variable {P : Program} {fr : Fm} {m : Mem} {c : SV → Prop}

theorem eqB_ok {a b : SV} {c : Bool → Prop} (h : eqB a b c) : ∃ r, c r ∧ ∀ ρ x y, VR ρ a x → VR ρ b y → ∃ i j, x = .bool i ∧ y = .bool j ∧ r = (i == j) := by
  obtain ⟨i, rfl, h0⟩ := onBool_ok h
  obtain ⟨j, rfl, h1⟩ := onBool_ok h0
  refine ⟨i == j, ?_, fun ρ x y e1 e2 => ⟨i, j, by simpa only [VR] using e1, by simpa only [VR] using e2, rfl⟩⟩
  cases i <;> cases j <;> exact h1
theorem eqI_ok {a b : SV} {c : Bool → Prop} (h : eqI a b c) : ∃ r, c r ∧ ∀ ρ x y, VR ρ a x → VR ρ b y → ∃ k i j, x = .int k i ∧ y = .int k j ∧ r = (i == j) := by
  obtain ⟨k, i, rfl, h0⟩ := onInt_ok h
  obtain ⟨k', j, rfl, h1⟩ := onInt_ok h0
  obtain ⟨rfl, h2⟩ := kK_ok h1
  have h3 := eqK_ok h2
  have h4 : decide (i = j) = (i == j) := by by_cases e : i = j <;> simp [e]
  exact ⟨i == j, h4 ▸ h3, fun ρ x y e1 e2 => ⟨k, i, j, by simpa only [VR] using e1, by simpa only [VR] using e2, rfl⟩⟩
theorem eqS_ok {a b : SV} {c : Bool → Prop} (h : eqS a b c) : ∃ r, c r ∧ ∀ ρ x y, VR ρ a x → VR ρ b y → ∃ s u : ByteArray, x = .string s ∧ y = .string u ∧ r = (s.toList == u.toList) ∧ r = (s == u) := by
  have hbs : ∀ (s u : ByteArray), (s == u) = (s.toList == u.toList) := beq_toListBytes
  obtain ⟨s, rfl, h0⟩ := onStr_ok h
  obtain ⟨l, rfl, h1⟩ := onStr_ok h0
  have h3 := teqK_ok _ _ _ h1
  by_cases hB : Byt s ∧ Byt l
  · refine ⟨_, h3, fun ρ x y e1 e2 => ⟨bts s, bts l, ?_, ?_, ?_, ?_⟩⟩
    · simp only [VR] at e1; exact e1.1
    · simp only [VR] at e2; exact e2.1
    · rw [bts_list, bts_list, beq_map hB.1 hB.2]
    · rw [hbs, bts_list, bts_list, beq_map hB.1 hB.2]
  · refine ⟨_, h3, fun ρ x y e1 e2 => absurd ⟨?_, ?_⟩ hB⟩
    · simp only [VR] at e1; exact e1.2
    · simp only [VR] at e2; exact e2.2

theorem part_run {rd : Rd} {t : TypeId} (hr : rdT P t = some rd) {l : SV} {o : Nat} {c : SV → Prop} (h : partK rd l o c) : ∃ v, c v ∧ ∀ ρ vs, LV ρ l vs → ∃ x, VR ρ v x ∧ ∀ w, (part t vs.toArray o).run P w = .ok x w := by
  obtain ⟨v, h1, h2⟩ := partK_ok hr h
  exact ⟨v, h1, fun ρ vs e => let ⟨x, e1, e2, _⟩ := h2 ρ vs e; ⟨x, e1, e2⟩⟩
/-- Equality, part by part. -/
def EqOk (P : Program) (n : Nat) (t : TypeId) (q : QT) : Prop :=
  ∀ (a b : SV) (c : Bool → Prop), eqT q a b c → ∃ r, c r ∧ ∀ ρ x y, VR ρ a x → VR ρ b y → ∀ w D, n ≤ D → (Op.equalIn (D + 1) t x y).run P w = .ok r w
theorem eqFs_ok {n : Nat} {f : TypeId → Option QT} (hf : ∀ t q, f t = some q → EqOk P n t q) : ∀ (fs : List Field) (q : QT), etFs P f fs = some q →
    ∀ (a b : SV) (c : Bool → Prop), eqT q a b c → ∃ r, c r ∧ ∀ ρ x y, VR ρ a x → VR ρ b y → ∃ xs ys, x = .agg xs ∧ y = .agg ys ∧ ∀ w D, n ≤ D → (Op.eqFields (D + 1) xs ys fs).run P w = .ok r w
  | [], q, hq, a, b, c, h => by
    simp only [etFs, Option.some.injEq] at hq; subst hq
    obtain ⟨la, rfl, h1⟩ := onAgg_ok h
    obtain ⟨lb, rfl, h2⟩ := onAgg_ok h1
    refine ⟨true, h2, fun ρ x y e1 e2 => ?_⟩
    simp only [VR] at e1 e2
    obtain ⟨xs, _, rfl⟩ := e1
    obtain ⟨ys, _, rfl⟩ := e2
    exact ⟨_, _, rfl, rfl, fun w D _ => by simp [Op.eqFields]⟩
  | g :: fs, q, hq, a, b, c, h => by
    simp only [etFs] at hq
    split at hq
    · cases hq
    · rename_i hname
      split at hq
      · rename_i rd e r h1 h2 h3
        injection hq with hq; subst hq
        obtain ⟨la, rfl, h4⟩ := onAgg_ok h
        obtain ⟨lb, rfl, h5⟩ := onAgg_ok h4
        obtain ⟨u, h6, h7⟩ := part_run h1 h5
        obtain ⟨v, h8, h9⟩ := part_run h1 h6
        obtain ⟨t, h10, h11⟩ := hf _ _ h2 u v _ h8
        have hn : g.name ≠ "_" := by simpa using hname
        rcases bK_ok h10 with ⟨rfl, h12⟩ | ⟨rfl, h12⟩
        · obtain ⟨r', h13, h14⟩ := eqFs_ok hf fs r h3 _ _ _ h12
          refine ⟨r', h13, fun ρ x y e1 e2 => ?_⟩
          obtain ⟨xs', ys', hx', hy', e5⟩ := h14 ρ x y e1 e2
          simp only [VR] at e1 e2
          obtain ⟨xs, e3, rfl⟩ := e1
          obtain ⟨ys, e4, rfl⟩ := e2
          injection hx' with hx'; injection hy' with hy'; subst hx' hy'
          refine ⟨_, _, rfl, rfl, fun w D hD => ?_⟩
          obtain ⟨p, e6, e7⟩ := h7 ρ xs e3
          obtain ⟨p', e8, e9⟩ := h9 ρ ys e4
          have e10 := h11 ρ p p' e6 e8 w D hD
          simp only [Op.eqFields, hn, ne_eq, not_false_eq_true, if_true, Sem.run_bind, e7 w, e9 w, e10, Result.andThen_ok]
          simpa using e5 w D hD
        · refine ⟨false, h12, fun ρ x y e1 e2 => ?_⟩
          simp only [VR] at e1 e2
          obtain ⟨xs, e3, rfl⟩ := e1
          obtain ⟨ys, e4, rfl⟩ := e2
          refine ⟨_, _, rfl, rfl, fun w D hD => ?_⟩
          obtain ⟨p, e6, e7⟩ := h7 ρ xs e3
          obtain ⟨p', e8, e9⟩ := h9 ρ ys e4
          have e10 := h11 ρ p p' e6 e8 w D hD
          simp only [Op.eqFields, hn, ne_eq, not_false_eq_true, if_true, Sem.run_bind, e7 w, e9 w, e10, Result.andThen_ok]
          simp
      · cases hq
theorem eqAr_ok {n z : Nat} {e : TypeId} {rd : Rd} {q : QT} (hz : P.cellsOf e = z) (hr : rdT P e = some rd) (hq : EqOk P n e q) (la lb : SV) (c : Bool → Prop) : ∀ (k o i : Nat), o = i * z →
    @Nat.rec (fun _ => Nat → Prop) (fun _ => c true) (fun _ ih o => partK rd la o fun x => partK rd lb o fun y => eqT q x y fun t => bK t (natK (Nat.add o z) ih) (c false)) k o →
    ∃ r, c r ∧ ∀ ρ xs ys, LV ρ la xs → LV ρ lb ys → ∀ w D, n ≤ D → (Op.eqItems (D + 1) e z xs.toArray ys.toArray (List.range' i k)).run P w = .ok r w
  | 0, o, i, _, h => ⟨true, h, fun ρ xs ys _ _ w D _ => by simp [Op.eqItems]⟩
  | k + 1, o, i, ho, h => by
    obtain ⟨u, h6, h7⟩ := part_run hr h
    obtain ⟨v, h8, h9⟩ := part_run hr h6
    obtain ⟨t, h10, h11⟩ := hq u v _ h8
    rcases bK_ok h10 with ⟨rfl, h12⟩ | ⟨rfl, h12⟩
    · obtain ⟨r', h13, h14⟩ := eqAr_ok hz hr hq la lb c k (o + z) (i + 1) (by rw [ho, Nat.succ_mul]) (natK_ok h12)
      refine ⟨r', h13, fun ρ xs ys e3 e4 w D hD => ?_⟩
      obtain ⟨p, e6, e7⟩ := h7 ρ xs e3
      obtain ⟨p', e8, e9⟩ := h9 ρ ys e4
      have e10 := h11 ρ p p' e6 e8 w D hD
      subst ho
      simp only [List.range'_succ, Op.eqItems, Sem.run_bind, e7 w, e9 w, e10, Result.andThen_ok]
      simpa using h14 ρ xs ys e3 e4 w D hD
    · refine ⟨false, h12, fun ρ xs ys e3 e4 w D hD => ?_⟩
      obtain ⟨p, e6, e7⟩ := h7 ρ xs e3
      obtain ⟨p', e8, e9⟩ := h9 ρ ys e4
      have e10 := h11 ρ p p' e6 e8 w D hD
      subst ho
      simp only [List.range'_succ, Op.eqItems, Sem.run_bind, e7 w, e9 w, e10, Result.andThen_ok]
      simp
theorem eqT_ok : ∀ (n : Nat) (t : TypeId) (q : QT), etT P n t = some q → EqOk P n t q
  | 0, _, _, h => by simp [etT] at h
  | n + 1, t, q, h => by
    intro a b c hc
    simp only [etT] at h
    split at h
    · rename_i hu
      injection h with h; subst h
      obtain ⟨r, h1, h2⟩ := eqB_ok hc
      refine ⟨r, h1, fun ρ x y e1 e2 w D hD => ?_⟩
      obtain ⟨i, j, rfl, rfl, rfl⟩ := h2 ρ x y e1 e2
      exact run_equalIn_bool' w D t i j hu
    · rename_i k hu
      injection h with h; subst h
      obtain ⟨r, h1, h2⟩ := eqI_ok hc
      refine ⟨r, h1, fun ρ x y e1 e2 w D hD => ?_⟩
      obtain ⟨k', i, j, rfl, rfl, rfl⟩ := h2 ρ x y e1 e2
      exact run_equalIn_int w D t k' k i j hu
    · rename_i hu
      injection h with h; subst h
      obtain ⟨r, h1, h2⟩ := eqS_ok hc
      refine ⟨r, h1, fun ρ x y e1 e2 w D hD => ?_⟩
      obtain ⟨s, u, rfl, rfl, rfl, _⟩ := h2 ρ x y e1 e2
      exact run_equalIn_string w D t s u hu
    · rename_i fs hu
      split at h
      · cases h
      · rename_i hst
        obtain ⟨r, h1, h2⟩ := eqFs_ok (n := n) (fun t q hq => eqT_ok n t q hq) fs.toList q h a b c hc
        refine ⟨r, h1, fun ρ x y e1 e2 w D hD => ?_⟩
        obtain ⟨xs, ys, rfl, rfl, h3⟩ := h2 ρ x y e1 e2
        have hfo : P.fieldsOf t = fs := by simp [Program.fieldsOf, hu]
        obtain ⟨D, rfl⟩ : ∃ D', D = D' + 1 := ⟨D - 1, by omega⟩
        rw [run_equalIn_struct w (D + 1) t xs ys (by rw [hfo]; exact hu) (by simpa using hst), hfo]
        exact h3 w D (by omega)
    · rename_i k e hu
      split at h
      · rename_i z rd q' h1 h2 h3
        injection h with h; subst h
        obtain ⟨la, rfl, h4⟩ := onAgg_ok hc
        obtain ⟨lb, rfl, h5⟩ := onAgg_ok h4
        unfold szT at h1
        cases hi : P.info? e with
        | none => rw [hi] at h1; cases h1
        | some i =>
          have hz : P.cellsOf e = z := by rw [hi] at h1; injection h1 with h1; simp [Program.cellsOf, hi, h1]
          obtain ⟨r, h6, h7⟩ := eqAr_ok hz h2 (eqT_ok n e q' h3) la lb c k 0 0 (by simp) h5
          refine ⟨r, h6, fun ρ x y e1 e2 w D hD => ?_⟩
          simp only [VR] at e1 e2
          obtain ⟨xs, e3, rfl⟩ := e1
          obtain ⟨ys, e4, rfl⟩ := e2
          obtain ⟨D, rfl⟩ : ∃ D', D = D' + 1 := ⟨D - 1, by omega⟩
          rw [run_equalIn_array w (D + 1) xs.toArray ys.toArray hu hi, hz, List.range_eq_range']
          exact h7 ρ xs ys e3 e4 w D (by omega)
      · cases h
    · cases h
end
end Go.Ev
end
section
set_option linter.all false
set_option linter.unusedVariables false
set_option linter.unusedSimpArgs false
namespace Go.Ev
open Go
section
variable {P : Program} {fr : Fm} {m : Mem} {c : SV → Prop}

def Scal (v : SV) (x : Value) : Prop := ∀ ρ, VR ρ v x
theorem scal_int (k : IntKind) (n : Int) : Scal (.int k n) (.int k n) := fun ρ => by simp only [VR]
theorem scal_bool (b : Bool) : Scal (.bool b) (.bool b) := fun ρ => by simp only [VR]
theorem binI_ok {f : BinOp} {k j : IntKind} {a b : Int} (h : binI f k a j b c) : ∃ v x, c v ∧ Scal v x ∧ ∀ (P : Program) T w, (binOp f T (.int k a) (.int j b)).run P w = .ok x w := by
  cases f
  · obtain ⟨rfl, h1⟩ := kK_ok h
    exact ⟨_, _, wrapK_ok h1, scal_int _ _, fun P T w => by simp [binOp, Op.intArith] <;> rfl⟩
  · obtain ⟨rfl, h1⟩ := kK_ok h
    exact ⟨_, _, wrapK_ok h1, scal_int _ _, fun P T w => by simp [binOp, Op.intArith] <;> rfl⟩
  · obtain ⟨rfl, h1⟩ := kK_ok h
    exact ⟨_, _, wrapK_ok h1, scal_int _ _, fun P T w => by simp [binOp, Op.intArith] <;> rfl⟩
  · obtain ⟨rfl, h1⟩ := kK_ok h
    obtain ⟨h0, h2⟩ := bK_f (eqK_ok h1)
    have h0 : ¬ b = 0 := by simpa using h0
    exact ⟨_, _, wrapK_ok h2, scal_int _ _, fun P T w => by simp [binOp, Op.intDiv, h0] <;> rfl⟩
  · obtain ⟨rfl, h1⟩ := kK_ok h
    obtain ⟨h0, h2⟩ := bK_f (eqK_ok h1)
    have h0 : ¬ b = 0 := by simpa using h0
    exact ⟨_, _, intF_ok h2, scal_int _ _, fun P T w => by simp [binOp, Op.intDiv, h0] <;> rfl⟩
  · obtain ⟨rfl, h1⟩ := kK_ok h
    exact ⟨_, _, bitK_ok (fun m n => bits_and) h1, scal_int _ _, fun P T w => by simp [binOp, Op.intBits, bits]⟩
  · obtain ⟨rfl, h1⟩ := kK_ok h
    exact ⟨_, _, bitK_ok (fun m n => bits_or) h1, scal_int _ _, fun P T w => by simp [binOp, Op.intBits, bits]⟩
  · obtain ⟨rfl, h1⟩ := kK_ok h
    exact ⟨_, _, bitK_ok (fun m n => bits_xor) h1, scal_int _ _, fun P T w => by simp [binOp, Op.intBits, bits]⟩
  · obtain ⟨n, rfl, h3⟩ := intN_ok h
    refine ⟨_, _, wrapK_ok h3, scal_int _ _, fun P T w => ?_⟩
    have h1 : ¬ ((n : Int) < 0) := by omega
    have h2 : ((2 : Int) ^ (Nat.min n k.bits)) = ((2 ^ (Nat.min n k.bits) : Nat) : Int) := by simp
    simp only [binOp, Op.shift, h1, if_false, Int.toNat_natCast]
    show Sem.run P (pure _) w = _
    simp only [Sem.run_pure]
    rw [show (min n k.bits) = Nat.min n k.bits from rfl, h2]
    rfl
  · obtain ⟨n, rfl, h3⟩ := intN_ok h
    refine ⟨_, _, intF_ok h3, scal_int _ _, fun P T w => ?_⟩
    have h1 : ¬ ((n : Int) < 0) := by omega
    have h2 : ((2 : Int) ^ (Nat.min n k.bits)) = ((2 ^ (Nat.min n k.bits) : Nat) : Int) := by simp
    simp only [binOp, Op.shift, h1, if_false, Int.toNat_natCast]
    show Sem.run P (pure _) w = _
    simp only [Sem.run_pure]
    rw [show (min n k.bits) = Nat.min n k.bits from rfl, h2]
    rfl
  · obtain ⟨rfl, h1⟩ := kK_ok h
    exact ⟨_, _, intF_ok h1, scal_int _ _, fun P T w => by simp [binOp, Op.intBits, bits]⟩
  · obtain ⟨rfl, h1⟩ := kK_ok h
    exact ⟨_, _, eqK_ok h1, scal_bool _, fun P T w => by simp [binOp, Op.intCmp]; by_cases e : a = b <;> simp [e]⟩
  · obtain ⟨rfl, h1⟩ := kK_ok h
    exact ⟨_, _, notK_ok (eqK_ok h1), scal_bool _, fun P T w => by simp [binOp, Op.intCmp]; by_cases e : a = b <;> simp [e]⟩
  · obtain ⟨rfl, h1⟩ := kK_ok h
    exact ⟨_, _, ltK_ok h1, scal_bool _, fun P T w => by simp [binOp, Op.intCmp]⟩
  · obtain ⟨rfl, h1⟩ := kK_ok h
    exact ⟨_, _, notK_ok (ltK_ok h1), scal_bool _, fun P T w => by simp [binOp, Op.intCmp]; by_cases e : b < a <;> simp [e] <;> omega⟩
  · obtain ⟨rfl, h1⟩ := kK_ok h
    exact ⟨_, _, ltK_ok h1, scal_bool _, fun P T w => by simp [binOp, Op.intCmp]⟩
  · obtain ⟨rfl, h1⟩ := kK_ok h
    exact ⟨_, _, notK_ok (ltK_ok h1), scal_bool _, fun P T w => by simp [binOp, Op.intCmp]; by_cases e : a < b <;> simp [e] <;> omega⟩
theorem tltK_ex : ∀ (l m : List Nat) (c : Bool → Prop), tltK l m c → ∃ r, c r
  | [], [], c, h => ⟨_, h⟩
  | [], _ :: _, c, h => ⟨_, h⟩
  | _ :: _, [], c, h => ⟨_, h⟩
  | a :: l, b :: m, c, h => by
    rcases bK_ok h with ⟨_, h⟩ | ⟨_, h⟩
    · exact ⟨_, h⟩
    · rcases bK_ok h with ⟨_, h⟩ | ⟨_, h⟩
      · exact tltK_ex l m c h
      · exact ⟨_, h⟩
theorem binT_ok {f : BinOp} {a b : List Nat} (h : binT f a b c) : ∃ v x, c v ∧ (Byt a → Byt b → Scal v x ∧ ∀ (P : Program) T w, (binOp f T (.string (bts a)) (.string (bts b))).run P w = .ok x w) := by
  have key : ∀ (P : Program) T w, (binOp f T (.string (bts a)) (.string (bts b))).run P w = (Op.stringOp f (bts a) (bts b)).run P w := fun P T w => by cases f <;> rfl
  cases f <;> first | exact h.elim | skip
  · have h1 := tlenK_ok _ _ _ (tappK_ok _ _ _ h)
    obtain ⟨h2, h3⟩ := bK_t h1
    refine ⟨_, .string (bts (a ++ b)), h3, fun ha hb => ⟨fun ρ => ?_, fun P T w => ?_⟩⟩
    · simp only [VR, true_and]
      intro x hx
      rcases List.mem_append.1 hx with hx | hx
      · exact ha x hx
      · exact hb x hx
    · have h4 := Nat.le_of_ble_eq_true h2
      have h5 : ¬ (((bts a).size + (bts b).size : Nat) : Int) > IntKind.i64.max := by
        simp only [bts_size, IntKind.max, IntKind.signed, IntKind.bits]
        simp only [List.length_append] at h4
        simp
        omega
      rw [key]
      simp only [Op.stringOp, h5, if_false, bts_append]
      rfl
  · refine ⟨_, _, teqK_ok _ _ _ h, fun ha hb => ⟨scal_bool _, fun P T w => ?_⟩⟩
    rw [key]; simp only [Op.stringOp, bts_list, beq_map ha hb]; rfl
  · refine ⟨_, _, notK_ok (teqK_ok _ _ _ h), fun ha hb => ⟨scal_bool _, fun P T w => ?_⟩⟩
    rw [key]; simp only [Op.stringOp, bts_list, beq_map ha hb]; rfl
  · by_cases hB : Byt a ∧ Byt b
    · refine ⟨_, _, tltK_ok _ _ _ hB.1 hB.2 h, fun ha hb => ⟨scal_bool _, fun P T w => ?_⟩⟩
      rw [key]; simp only [Op.stringOp, bts_list]; rfl
    · obtain ⟨r, hr⟩ := tltK_ex _ _ _ h
      exact ⟨_, .nilIface, hr, fun ha hb => absurd ⟨ha, hb⟩ hB⟩
  · by_cases hB : Byt a ∧ Byt b
    · refine ⟨_, _, notK_ok (tltK_ok _ _ _ hB.2 hB.1 h), fun ha hb => ⟨scal_bool _, fun P T w => ?_⟩⟩
      rw [key]; simp only [Op.stringOp, bts_list, less_total]; rfl
    · obtain ⟨r, hr⟩ := tltK_ex _ _ _ h
      exact ⟨_, .nilIface, notK_ok hr, fun ha hb => absurd ⟨ha, hb⟩ hB⟩
  · by_cases hB : Byt a ∧ Byt b
    · refine ⟨_, _, tltK_ok _ _ _ hB.2 hB.1 h, fun ha hb => ⟨scal_bool _, fun P T w => ?_⟩⟩
      rw [key]; simp only [Op.stringOp, bts_list, less_total, Bool.not_not]; rfl
    · obtain ⟨r, hr⟩ := tltK_ex _ _ _ h
      exact ⟨_, .nilIface, hr, fun ha hb => absurd ⟨ha, hb⟩ hB⟩
  · by_cases hB : Byt a ∧ Byt b
    · refine ⟨_, _, notK_ok (tltK_ok _ _ _ hB.1 hB.2 h), fun ha hb => ⟨scal_bool _, fun P T w => ?_⟩⟩
      rw [key]; simp only [Op.stringOp, bts_list]; rfl
    · obtain ⟨r, hr⟩ := tltK_ex _ _ _ h
      exact ⟨_, .nilIface, notK_ok hr, fun ha hb => absurd ⟨ha, hb⟩ hB⟩
theorem run_guard_int {f : BinOp} {t : TypeId} {X Y : Operand} {k j : IntKind} {a b : Int} {w : World} : (eqGuard f t X Y (.int k a) (.int j b)).run P w = .ok () w := by cases f <;> rfl
theorem run_guard_str {f : BinOp} {t : TypeId} {X Y : Operand} {a b : ByteArray} {w : World} : (eqGuard f t X Y (.string a) (.string b)).run P w = .ok () w := by cases f <;> rfl
theorem run_bin {e : Operand → Value} {d : Option Tmp} {f : BinOp} {t u ty : TypeId} {X Y : Operand} {pos : String} {af : Array Edge} {gd : Option (Nat × Bool)} {w : World} {x : Value}
    (h1 : (eqGuard f t X Y (e X) (e Y)).run P w = .ok () w) (h2 : (binOp f t (e X) (e Y)).run P w = .ok x w) : (execOp e ⟨d, .binOp f t X Y u, ty, pos, af, gd⟩).run P w = .ok (.value x) w := by
  simp only [execOp, Sem.run_bind, h1, h2, Result.andThen_ok]; rfl
theorem q_bin {f : BinOp} {t u : TypeId} {X Y : Operand} {x y : LX} (hx : lowX X = some x) (hy : lowX Y = some y) (h : qBin f x y fr m c) : ∃ v, c v ∧ QOk P fr m (.binOp f t X Y u) v := by
  obtain ⟨v, h1, h2⟩ := evK_ok hx h
  obtain ⟨w', h3, h4⟩ := evK_ok hy h1
  cases v <;> first | exact h3.elim | skip
  · obtain ⟨k', b, rfl, h5⟩ := onInt_ok h3
    obtain ⟨r, z, h6, h7, h8⟩ := binI_ok h5
    refine ⟨r, h6, fun ρ n w e d ty pos af gd hm he => ⟨z, h7 ρ, ?_⟩⟩
    have e1 := h2 ρ e he
    have e2 := h4 ρ e he
    simp only [VR] at e1 e2
    exact run_bin (by rw [e1, e2]; exact run_guard_int) (by rw [e1, e2]; exact h8 P t w)
  · obtain ⟨b, rfl, h5⟩ := onStr_ok h3
    obtain ⟨r, z, h6, h7⟩ := binT_ok h5
    refine ⟨r, h6, fun ρ n w e d ty pos af gd hm he => ?_⟩
    have e1 := h2 ρ e he
    have e2 := h4 ρ e he
    simp only [VR] at e1 e2
    obtain ⟨h8, h9⟩ := h7 e1.2 e2.2
    exact ⟨z, h8 ρ, run_bin (by rw [e1.1, e2.1]; exact run_guard_str) (by rw [e1.1, e2.1]; exact h9 P t w)⟩
end
end Go.Ev
end
section
set_option linter.all false
set_option linter.unusedVariables false
set_option linter.unusedSimpArgs false
namespace Go.Ev
open Go
section
variable {P : Program} {fr : Fm} {m : Mem} {c : SV → Prop}

def NilAt (f : SV → (Bool → Prop) → Prop) (no : Value) (ye : Value → Prop) : Prop := ∀ v c, f v c → ∃ r, c r ∧ ∀ ρ x, VR ρ v x → (r = true → x = no) ∧ (r = false → ye x)
theorem nP : NilAt isNP (.pointer none) (fun x => ∃ a, x = .pointer (some a)) := fun v c h => by
  cases v <;> first | exact h.elim | exact ⟨_, h, fun ρ x e => by simp only [VR] at e; first | (subst e; simp) | (obtain ⟨a, k, _, rfl⟩ := e; simp)⟩
theorem nS : NilAt isNS (.slice none 0 0) (fun x => ∃ a n k, x = .slice (some a) n k) := fun v c h => by
  cases v <;> first | exact h.elim | skip
  · refine ⟨_, h, fun ρ x e => ?_⟩
    rename_i q
    cases q <;> simp only [VR] at e <;> obtain ⟨a, k, _, rfl⟩ := e <;> simp
  · exact ⟨_, h, fun ρ x e => by simp only [VR] at e; obtain ⟨a, k, o, _, rfl⟩ := e; simp⟩
  · exact ⟨_, h, fun ρ x e => by simp only [VR] at e; subst e; simp⟩
theorem nM : NilAt isNM (.map none) (fun x => ∃ a, x = .map (some a)) := fun v c h => by
  cases v <;> first | exact h.elim | exact ⟨_, h, fun ρ x e => by simp only [VR] at e; first | (subst e; simp) | (obtain ⟨a, k, _, rfl⟩ := e; simp)⟩
theorem nF : NilAt isNF .nilFunc (fun x => ∃ f g q, x = .func f g q) := fun v c h => by
  cases v <;> first | exact h.elim | exact ⟨_, h, fun ρ x e => by simp only [VR] at e; first | (subst e; simp) | (obtain ⟨a, k, _, rfl⟩ := e; simp) | (obtain ⟨a, k, _, _, rfl⟩ := e; simp)⟩
theorem nI : NilAt isNI .nilIface (fun x => ∃ t y, x = .iface t y) := fun v c h => by
  cases v <;> first | exact h.elim | exact ⟨_, h, fun ρ x e => by simp only [VR] at e; first | (subst e; simp) | (obtain ⟨y, _, rfl⟩ := e; simp)⟩
theorem eqN_ok {f : SV → (Bool → Prop) → Prop} {no : Value} {ye : Value → Prop} (hf : NilAt f no ye) {a b : SV} {c : Bool → Prop} (h : eqN f a b c) :
    ∃ r, c r ∧ ∀ ρ x y, VR ρ a x → VR ρ b y → (r = true ∧ x = no ∧ y = no) ∨ (r = false ∧ x = no ∧ ye y) ∨ (r = false ∧ ye x ∧ y = no) := by
  obtain ⟨r, h1, h2⟩ := hf a _ h
  obtain ⟨s, h3, h4⟩ := hf b _ h1
  rcases bK_ok h3 with ⟨rfl, h5⟩ | ⟨rfl, h5⟩
  · refine ⟨s, h5, fun ρ x y e1 e2 => ?_⟩
    cases s with
    | true => exact .inl ⟨rfl, (h2 ρ x e1).1 rfl, (h4 ρ y e2).1 rfl⟩
    | false => exact .inr (.inl ⟨rfl, (h2 ρ x e1).1 rfl, (h4 ρ y e2).2 rfl⟩)
  · obtain ⟨rfl, h6⟩ := bK_t h5
    exact ⟨false, h6, fun ρ x y e1 e2 => .inr (.inr ⟨rfl, (h2 ρ x e1).2 rfl, (h4 ρ y e2).1 rfl⟩)⟩
theorem fold_set : ∀ (xs : List Value) (j o : Nat) (zs : List Value), o + j + xs.length ≤ zs.length →
    (xs.zipIdx j).foldl (fun (cs : Array Value) (p : Value × Nat) => cs.setIfInBounds (o + p.2) p.1) zs.toArray = (zs.take (o + j) ++ xs ++ zs.drop (o + j + xs.length)).toArray
  | [], j, o, zs, _ => by simp
  | x :: xs, j, o, zs, h => by
    simp only [List.length_cons] at h
    rw [List.zipIdx_cons, List.foldl_cons]
    have h1 : zs.toArray.setIfInBounds (o + j) x = (zs.set (o + j) x).toArray := by simp
    rw [h1, fold_set xs (j + 1) o (zs.set (o + j) x) (by simp; omega)]
    congr 1
    have h2 : (zs.set (o + j) x).take (o + (j + 1)) = zs.take (o + j) ++ [x] := by
      rw [show o + (j + 1) = o + j + 1 by omega, List.take_succ, List.take_set_of_le (Nat.le_refl _)]
      rw [List.getElem?_set_self (by omega)]
      rfl
    rw [h2, show o + (j + 1) + xs.length = o + j + (x :: xs).length by simp; omega]
    rw [List.drop_set_of_lt (by simp)]
    simp
theorem equal_of {t : TypeId} {x y : Value} {r : Bool} {w : World} (h : ∀ D, (Op.equalIn (D + 1) t x y).run P w = .ok r w) : (Op.equal t x y).run P w = .ok r w := h 9999
theorem equal_at {t : TypeId} {x y : Value} {r : Bool} {w : World} (h : (Op.equalIn (9999 + 1) t x y).run P w = .ok r w) : (Op.equal t x y).run P w = .ok r w := h
/-- What a comparison of two values comes to. -/
theorem q_eq {t u : TypeId} {X Y : Operand} {x y : LX} {q : QT} {neg : Bool} (hq : lowEq P t X Y = some q) (hx : lowX X = some x) (hy : lowX Y = some y) (h : qEq q neg x y fr m c) :
    ∃ v, c v ∧ QOk P fr m (.binOp (if neg then .neq else .eql) t X Y u) v := by
  obtain ⟨v, h1, h2⟩ := evK_ok hx h
  obtain ⟨w', h3, h4⟩ := evK_ok hy h1
  have key : ∃ r, (bK neg (notK (fun r => c (.bool r)) r) (c (.bool r))) ∧ ∀ ρ x y, VR ρ v x → VR ρ w' y → ∀ w, (Op.equal t x y).run P w = .ok r w ∧ (∀ f, (eqGuard f t X Y x y).run P w = .ok () w) ∧
      (binOp .eql t x y = (do pure (.bool (← Op.equal t x y))) ∧ binOp .neq t x y = (do pure (.bool (!(← Op.equal t x y))))) := by
    simp only [lowEq] at hq
    split at hq
    · rename_i e hu
      injection hq with hq; subst hq
      obtain ⟨r, h5, h6⟩ := eqN_ok nP h3
      refine ⟨r, h5, fun ρ x y e1 e2 w => ?_⟩
      rcases h6 ρ x y e1 e2 with ⟨rfl, rfl, rfl⟩ | ⟨rfl, rfl, ⟨a, rfl⟩⟩ | ⟨rfl, ⟨a, rfl⟩, rfl⟩ <;>
        exact ⟨equal_of fun D => by simp [Op.equalIn, run_underlying hu], fun f => by cases f <;> rfl, rfl, rfl⟩
    · rename_i e hu
      injection hq with hq; subst hq
      obtain ⟨r, h5, h6⟩ := eqN_ok nS h3
      refine ⟨r, h5, fun ρ x y e1 e2 w => ?_⟩
      rcases h6 ρ x y e1 e2 with ⟨rfl, rfl, rfl⟩ | ⟨rfl, rfl, ⟨a, n, k, rfl⟩⟩ | ⟨rfl, ⟨a, n, k, rfl⟩, rfl⟩ <;>
        exact ⟨equal_of fun D => by simp [Op.equalIn, run_underlying hu], fun f => by cases f <;> rfl, rfl, rfl⟩
    · rename_i e e' hu
      injection hq with hq; subst hq
      obtain ⟨r, h5, h6⟩ := eqN_ok nM h3
      refine ⟨r, h5, fun ρ x y e1 e2 w => ?_⟩
      rcases h6 ρ x y e1 e2 with ⟨rfl, rfl, rfl⟩ | ⟨rfl, rfl, ⟨a, rfl⟩⟩ | ⟨rfl, ⟨a, rfl⟩, rfl⟩ <;>
        exact ⟨equal_of fun D => by simp [Op.equalIn, run_underlying hu], fun f => by cases f <;> rfl, rfl, rfl⟩
    · rename_i e e' e'' hu
      injection hq with hq; subst hq
      obtain ⟨r, h5, h6⟩ := eqN_ok nF h3
      refine ⟨r, h5, fun ρ x y e1 e2 w => ?_⟩
      rcases h6 ρ x y e1 e2 with ⟨rfl, rfl, rfl⟩ | ⟨rfl, rfl, ⟨f, g, q, rfl⟩⟩ | ⟨rfl, ⟨f, g, q, rfl⟩, rfl⟩ <;>
        exact ⟨equal_of fun D => by simp [Op.equalIn, run_underlying hu], fun f => by cases f <;> rfl, rfl, rfl⟩
    · rename_i ms hu
      split at hq
      · rename_i hc
        injection hq with hq; subst hq
        obtain ⟨r, h5, h6⟩ := eqN_ok nI h3
        refine ⟨r, h5, fun ρ x y e1 e2 w => ?_⟩
        rcases h6 ρ x y e1 e2 with ⟨rfl, rfl, rfl⟩ | ⟨rfl, rfl, ⟨t', a, rfl⟩⟩ | ⟨rfl, ⟨t', a, rfl⟩, rfl⟩
        · refine ⟨equal_of fun D => by simp [Op.equalIn, run_underlying hu], fun f => ?_, rfl, rfl⟩
          cases X <;> cases Y <;> simp [isC] at hc <;> cases f <;> simp [eqGuard]
        · exact ⟨equal_of fun D => by simp [Op.equalIn, run_underlying hu], fun f => by cases f <;> rfl, rfl, rfl⟩
        · exact ⟨equal_of fun D => by simp [Op.equalIn, run_underlying hu], fun f => by cases f <;> rfl, rfl, rfl⟩
      · cases hq
    · rename_i hu
      injection hq with hq; subst hq
      obtain ⟨r, h5, h6⟩ := eqB_ok (c := fun r => bK neg (notK (fun r => c (.bool r)) r) (c (.bool r))) h3
      refine ⟨r, h5, fun ρ x y e1 e2 w => ?_⟩
      obtain ⟨i, j, rfl, rfl, rfl⟩ := h6 ρ x y e1 e2
      exact ⟨run_equalIn_bool' w 9999 t i j hu, fun f => by cases f <;> rfl, rfl, rfl⟩
    · rename_i fs hu
      split at hq
      · cases hq
      · rename_i hg
        simp only [etT, hu] at hq
        split at hq
        · cases hq
        · rename_i hst
          obtain ⟨r, h5, h6⟩ := eqFs_ok (n := 4) (fun t q hq => eqT_ok 4 t q hq) fs.toList q hq _ _ _ h3
          refine ⟨r, h5, fun ρ x y e1 e2 w => ?_⟩
          obtain ⟨xs, ys, rfl, rfl, h7⟩ := h6 ρ x y e1 e2
          have hfo : P.fieldsOf t = fs := by simp [Program.fieldsOf, hu]
          refine ⟨equal_at ?_, fun f => run_eqGuard_agg w f t X Y xs ys (by simpa using hg), rfl, rfl⟩
          rw [run_equalIn_struct w 9999 t xs ys (by rw [hfo]; exact hu) (by simpa using hst), hfo]
          exact h7 w 9998 (by omega)
    · rename_i k' e' hu
      split at hq
      · cases hq
      · rename_i hg
        obtain ⟨r, h5, h6⟩ := eqT_ok 5 t q hq _ _ _ h3
        simp only [etT, hu] at hq
        split at hq
        · rename_i z rd q' _ _ _
          injection hq with hq; subst hq
          obtain ⟨la, rfl, h7⟩ := onAgg_ok h3
          obtain ⟨lb, rfl, _⟩ := onAgg_ok h7
          refine ⟨r, h5, fun ρ x y e1 e2 w => ?_⟩
          have h8 := h6 ρ x y e1 e2 w 9999 (by omega)
          simp only [VR] at e1 e2
          obtain ⟨xs, _, rfl⟩ := e1
          obtain ⟨ys, _, rfl⟩ := e2
          exact ⟨equal_at h8, fun f => run_eqGuard_agg w f t X Y _ _ (by simpa using hg), rfl, rfl⟩
        · cases hq
    · cases hq
  obtain ⟨r, h5, h6⟩ := key
  refine ⟨.bool (if neg then !r else r), by cases neg with | false => exact h5 | true => exact notK_ok (c := fun r => c (.bool r)) (b := r) h5, fun ρ n w e d ty pos af gd hm he => ⟨.bool (if neg then !r else r), by simp only [VR], ?_⟩⟩
  obtain ⟨h7, h8, h9, h10⟩ := h6 ρ _ _ (h2 ρ e he) (h4 ρ e he) w
  refine run_bin (h8 _) ?_
  cases neg
  · simp only [Bool.false_eq_true, if_false]; rw [h9]; simp only [Sem.run_bind, h7, Result.andThen_ok]; rfl
  · simp only [if_true]; rw [h10]; simp only [Sem.run_bind, h7, Result.andThen_ok]; rfl
theorem run_v {s : Sem Value} {x : Value} {w w' : World} (h : s.run P w = .ok x w') : (do pure (Next.value (← s)) : Sem Next).run P w = .ok (.value x) w' := by
  simp only [Sem.run_bind, h, Result.andThen_ok]; rfl
theorem q_un {f : UnOp} {t : TypeId} {X : Operand} {x : LX} (hx : lowX X = some x) (h : qUn f x fr m c) : ∃ v, c v ∧ QOk P fr m (.unOp f t X) v := by
  obtain ⟨v, h1, h2⟩ := evK_ok hx h
  cases v <;> first | exact h1.elim | skip
  · cases f <;> first | exact h1.elim | skip
    refine ⟨_, notK_ok (c := fun r => c (.bool r)) h1, fun ρ n w e d ty pos af gd hm he => ?_⟩
    have := h2 ρ e he
    simp only [VR] at this
    rename_i b
    exact ⟨.bool (!b), by simp only [VR], by simp only [execOp, this]; rfl⟩
  · rename_i k i
    cases f <;> first | exact h1.elim | skip
    · refine ⟨_, wrapK_ok (c := fun r => c (.int _ r)) h1, fun ρ n w e d ty pos af gd hm he => ?_⟩
      have := h2 ρ e he
      simp only [VR] at this
      exact ⟨.int k (k.wrap (0 - i)), by simp only [VR]; rfl, by simp only [execOp, this]; rfl⟩
    · refine ⟨_, intF_ok (c := fun r => c (.int _ r)) h1, fun ρ n w e d ty pos af gd hm he => ?_⟩
      have := h2 ρ e he
      simp only [VR] at this
      exact ⟨.int k (bits .xor k (if k.signed then -1 else k.max) i), by simp only [VR], by simp only [execOp, this]; rfl⟩
theorem q_conv {s t : TypeId} {d : TypeDesc} {k : IntKind} {X : Operand} {x : LX} (hs : P.underlying s = some d) (ht : P.underlying t = some (.int k)) (hx : lowX X = some x) (h : qConv k x fr m c) : ∃ v, c v ∧ QOk P fr m (.convert s t X) v := by
  obtain ⟨v, h1, h2⟩ := evK_ok hx h
  obtain ⟨j, n, rfl, h3⟩ := onInt_ok h1
  refine ⟨_, wrapK_ok (c := fun r => c (.int _ r)) h3, fun ρ n' w e d' ty pos af gd hm he => ?_⟩
  have := h2 ρ e he
  simp only [VR] at this
  exact ⟨.int k (k.wrap n), by simp only [VR], by simp [execOp, this, Go.convert, run_underlying hs, run_underlying ht, Conv.intToInt]⟩
theorem q_sid {s t : TypeId} {X : Operand} {x : LX} (hs : P.underlying s = some .string) (ht : P.underlying t = some .string) (hx : lowX X = some x) (h : qSid x fr m c) : ∃ v, c v ∧ QOk P fr m (.convert s t X) v := by
  obtain ⟨v, h1, h2⟩ := evK_ok hx h
  obtain ⟨l, rfl, h3⟩ := onStr_ok h1
  refine ⟨_, h3, fun ρ n' w e d' ty pos af gd hm he => ?_⟩
  have := h2 ρ e he
  refine ⟨_, this, ?_⟩
  simp only [VR] at this
  simp [execOp, this.1, Go.convert, run_underlying hs, run_underlying ht]
theorem fillK_ok {place : Nat → Option (Nat × Nat)} : ∀ (l : List (Nat × Operand)) (ps : LPs) (z : SV) (fr : Fm) (c : SV → Prop), lowPs place l = some ps → fillK ps z fr c →
    ∃ r, c r ∧ ∀ ρ e zs, EvR ρ fr e → LV ρ z zs → ∃ ys, Instr.fill place zs.toArray (l.map fun p => (p.1, e p.2)) = some ys.toArray ∧ LV ρ r ys
  | [], ps, z, fr, c, hp, h => by
    simp only [lowPs, Option.some.injEq] at hp; subst hp
    exact ⟨z, h, fun ρ e zs _ hz => ⟨zs, by simp [Instr.fill], hz⟩⟩
  | (i, X) :: l, ps, z, fr, c, hp, h => by
    simp only [lowPs] at hp
    split at hp
    · rename_i o k y r h1 h2 h3
      injection hp with hp; subst hp
      obtain ⟨v, h4, h5⟩ := evK_ok h2 h
      obtain ⟨cs, h6, h7⟩ := cellsK_ok h4
      obtain ⟨h8, h9⟩ := lenIs_ok _ _ _ h6
      obtain ⟨q, h10, h11⟩ := setK_ok _ _ _ _ h8
      obtain ⟨r', h12, h13⟩ := fillK_ok l r q fr c h3 h10
      refine ⟨r', h12, fun ρ e zs he hz => ?_⟩
      have e1 := h7 ρ _ (h5 ρ e he)
      have e2 := h9 ρ _ e1
      obtain ⟨e3, e4⟩ := h11 ρ _ _ e1 hz
      obtain ⟨ys, e5, e6⟩ := h13 ρ e _ he e3
      refine ⟨ys, ?_, e6⟩
      simp only [List.map_cons, Instr.fill, h1]
      have e7 : (e X).cells.size = k := by rw [← Array.length_toList]; exact e2
      rw [if_neg (by simp [e7]; rw [e2] at e4; omega)]
      have e8 : (e X).cells.zipIdx.foldl (fun cs (c, j) => cs.setIfInBounds (o + j) c) zs.toArray = (zs.take o ++ (e X).cells.toList ++ zs.drop (o + (e X).cells.toList.length)).toArray := by
        rw [← Array.foldl_toList, Array.toList_zipIdx]
        exact fold_set (e X).cells.toList 0 o zs (by simpa using e4)
      rw [e8]
      exact e5
    · cases hp
theorem q_buildS {t : TypeId} {fs : Array Field} {z : SV} {ps : Array (Nat × Operand)} {l : LPs} {pl : List (Nat × Nat)} (ht : P.underlying t = some (.struct fs)) (hz : zcT P t = some z)
    (hpl : fs.toList.mapM (fun f => (P.info? f.type).map fun i => (f.offset, i.size)) = some pl) (hp : lowPs (fun i => pl.toArray[i]?) ps.toList = some l) (h : qBuild z l fr m c) : ∃ v, c v ∧ QOk P fr m (.build t ps) v := by
  obtain ⟨r, h1, h2⟩ := fillK_ok ps.toList l z fr _ hp h
  refine ⟨_, h1, fun ρ n w e d ty pos af gd hm he => ?_⟩
  obtain ⟨it, v, h3, h4, _, h5⟩ := zcT_info hz
  obtain ⟨ys, h6, h7⟩ := h2 ρ e _ he (h5 ρ)
  refine ⟨.agg ys.toArray, by simp only [VR]; exact ⟨_, h7, rfl⟩, ?_⟩
  refine run_v (run_build w t _ _ ?_)
  have h8 : (ps.map fun x => match x with | (i, x) => (i, e x)).toList = ps.toList.map fun p => (p.1, e p.2) := by simp
  rw [h8]
  simp only [Program.built, h3, ht, h4, hpl]
  simpa using h6
theorem q_buildA {t el : TypeId} {k n : Nat} {z : SV} {ps : Array (Nat × Operand)} {l : LPs} (ht : P.underlying t = some (.array n el)) (hz : zcT P t = some z) (hk : szT P el = some k)
    (hp : lowPs (fun i => some (i * k, k)) ps.toList = some l) (h : qBuild z l fr m c) : ∃ v, c v ∧ QOk P fr m (.build t ps) v := by
  obtain ⟨r, h1, h2⟩ := fillK_ok ps.toList l z fr _ hp h
  refine ⟨_, h1, fun ρ n w e d ty pos af gd hm he => ?_⟩
  obtain ⟨it, v, h3, h4, _, h5⟩ := zcT_info hz
  obtain ⟨ys, h6, h7⟩ := h2 ρ e _ he (h5 ρ)
  refine ⟨.agg ys.toArray, by simp only [VR]; exact ⟨_, h7, rfl⟩, ?_⟩
  refine run_v (run_build w t _ _ ?_)
  have h8 : (ps.map fun x => match x with | (i, x) => (i, e x)).toList = ps.toList.map fun p => (p.1, e p.2) := by simp
  rw [h8]
  unfold szT at hk
  cases hi : P.info? el with
  | none => simp [hi] at hk
  | some i =>
    rw [hi] at hk
    simp only [Option.map_some, Option.some.injEq] at hk
    simp only [Program.built, h3, ht, h4, hi, hk]
    simpa using h6
end
end Go.Ev
end
section
set_option linter.all false
set_option linter.unusedVariables false
set_option linter.unusedSimpArgs false
namespace Go.Ev
open Go
section
variable {P : Program} {fr : Fm} {m : Mem} {c : SV → Prop}

theorem idxK_ok {v : SV} {c : Nat → Prop} (h : idxK v c) : ∃ (k : IntKind) (n : Nat), v = .int k n ∧ c n := by
  obtain ⟨k, i, rfl, h1⟩ := onInt_ok h
  obtain ⟨n, rfl, h2⟩ := intN_ok h1
  exact ⟨k, n, rfl, h2⟩
theorem q_iaS {t el : TypeId} {z : Nat} {X I : Operand} {x i : LX} (ht : P.underlying t = some (.slice el)) (hz : szT P el = some z) (hx : lowX X = some x) (hi : lowX I = some i) (h : qIa (.sl z) x i fr m c) : ∃ v, c v ∧ QOk P fr m (.indexAddr t X I) v := by
  obtain ⟨v, h1, h2⟩ := evK_ok hx h
  obtain ⟨u, h3, h4⟩ := evK_ok hi h1
  obtain ⟨k, j, rfl, h5⟩ := idxK_ok h3
  obtain ⟨b, o, n, q, rfl, h6⟩ := onSlice_ok h5
  obtain ⟨h7, h8⟩ := bK_t h6
  have h7 := blt_iff.1 h7
  refine ⟨_, natK_ok h8, fun ρ n' w e d ty pos af gd hm he => ?_⟩
  have e1 := h2 ρ e he
  have e2 := h4 ρ e he
  simp only [VR] at e2
  have e3 : ∃ a k q', ρ b = some (a, k) ∧ e X = .slice (some ⟨a, o, none⟩) n q' := by
    cases q <;> simp only [VR] at e1 <;> obtain ⟨a, k, e4, e5⟩ := e1 <;> exact ⟨a, k, _, e4, e5⟩
  obtain ⟨a, k', q', e4, e5⟩ := e3
  refine ⟨.pointer (some ⟨a, o + j * z, none⟩), by simp only [VR]; exact ⟨a, k', e4, rfl⟩, run_v ?_⟩
  have h9 : (0 : Int) ≤ j ∧ (j : Int) < n := by omega
  simp [e5, e2, Instr.indexAt, asIntOf, run_underlying ht, h9.2, szT_run hz, add_lit, h7]
theorem q_iaA {t el : TypeId} {z len : Nat} {X I : Operand} {x i : LX} (ht : P.underlying t = some (.array len el)) (hz : szT P el = some z) (hx : lowX X = some x) (hi : lowX I = some i) (h : qIa (.arr len z) x i fr m c) : ∃ v, c v ∧ QOk P fr m (.indexAddr t X I) v := by
  obtain ⟨v, h1, h2⟩ := evK_ok hx h
  obtain ⟨u, h3, h4⟩ := evK_ok hi h1
  obtain ⟨k, j, rfl, h5⟩ := idxK_ok h3
  obtain ⟨h7, h8⟩ := bK_t h5
  have h7 := blt_iff.1 h7
  obtain ⟨b, o, rfl, h6⟩ := onPtr_ok h8
  refine ⟨_, natK_ok h6, fun ρ n' w e d ty pos af gd hm he => ?_⟩
  have e1 := h2 ρ e he
  have e2 := h4 ρ e he
  simp only [VR] at e1 e2
  obtain ⟨a, k', e4, e5⟩ := e1
  refine ⟨.pointer (some ⟨a, o + j * z, none⟩), by simp only [VR]; exact ⟨a, k', e4, rfl⟩, run_v ?_⟩
  simp [e5, e2, Instr.indexAt, asIntOf, run_underlying ht, Instr.sureAddr, szT_run hz, add_lit, h7]
theorem q_ix {t el : TypeId} {z len : Nat} {rd : Rd} {X I : Operand} {x i : LX} (ht : P.underlying t = some (.array len el)) (hz : szT P el = some z) (hr : rdT P el = some rd) (hx : lowX X = some x) (hi : lowX I = some i) (h : qIx len z rd x i fr m c) : ∃ v, c v ∧ QOk P fr m (.index t X I) v := by
  obtain ⟨v, h1, h2⟩ := evK_ok hx h
  obtain ⟨u, h3, h4⟩ := evK_ok hi h1
  obtain ⟨k, j, rfl, h5⟩ := idxK_ok h3
  obtain ⟨h7, h8⟩ := bK_t h5
  have h7 := blt_iff.1 h7
  obtain ⟨l, rfl, h6⟩ := onAgg_ok h8
  obtain ⟨r, h9, h10⟩ := part_run hr (natK_ok h6)
  refine ⟨r, h9, fun ρ n' w e d ty pos af gd hm he => ?_⟩
  have e1 := h2 ρ e he
  have e2 := h4 ρ e he
  simp only [VR] at e1 e2
  obtain ⟨vs, e4, e5⟩ := e1
  obtain ⟨y, e6, e7⟩ := h10 ρ vs e4
  refine ⟨y, e6, run_v ?_⟩
  have e8 := e7 w
  simp only [Nat.mul_eq] at e8
  simp [e5, e2, Instr.index, asIntOf, run_underlying ht, szT_run hz, h7, e8]
theorem q_ixs {t : TypeId} {X I : Operand} {x i : LX} (ht : P.underlying t = some .string) (hx : lowX X = some x) (hi : lowX I = some i) (h : qIxs x i fr m c) : ∃ v, c v ∧ QOk P fr m (.index t X I) v := by
  obtain ⟨v, h1, h2⟩ := evK_ok hx h
  obtain ⟨u, h3, h4⟩ := evK_ok hi h1
  obtain ⟨k, j, rfl, h5⟩ := idxK_ok h3
  obtain ⟨l, rfl, h6⟩ := onStr_ok h5
  obtain ⟨b, h7, h8⟩ := tnthK_ok _ _ _ h6
  refine ⟨_, natK_ok h8, fun ρ n' w e d ty pos af gd hm he => ?_⟩
  have e1 := h2 ρ e he
  have e2 := h4 ρ e he
  simp only [VR] at e1 e2
  refine ⟨.int .u8 (UInt8.ofNat b).toNat, by simp only [VR, UInt8.toNat_ofNat]; rfl, run_v ?_⟩
  have h9 : (bts l)[j]? = some (UInt8.ofNat b) := by
    obtain ⟨hlt, hv⟩ := List.getElem?_eq_some_iff.1 h7
    rw [getElem?_pos _ _ (by simpa [bts_size] using hlt)]
    congr 1
    simp [bts, ← hv, ByteArray.getElem_eq_getElem_data]
  simp [e1.1, e2, Instr.index, asIntOf, run_underlying ht, h9]
theorem q_lens {t el : TypeId} {X : Operand} {x : LX} (ht : P.underlying t = some (.slice el)) (hx : lowX X = some x) (h : qLens x fr m c) : ∃ v, c v ∧ QOk P fr m (.call ⟨.builtin .len, #[X], #[t]⟩) v := by
  obtain ⟨v, h1, h2⟩ := evK_ok hx h
  have key : ∃ n : Nat, c (.int .i64 (.ofNat n)) ∧ ∀ ρ x, VR ρ v x → ∃ a q, x = .slice a n q := by
    cases v <;> first | exact h1.elim | skip
    · rename_i b o n q
      refine ⟨_, h1, fun ρ x e => ?_⟩
      cases q <;> simp only [VR] at e <;> obtain ⟨a, k, _, rfl⟩ := e <;> exact ⟨_, _, rfl⟩
    · exact ⟨0, h1, fun ρ x e => by simp only [VR] at e; obtain ⟨a, k, o, _, rfl⟩ := e; exact ⟨_, _, rfl⟩⟩
    · exact ⟨0, h1, fun ρ x e => by simp only [VR] at e; subst e; exact ⟨_, _, rfl⟩⟩
  obtain ⟨n, h3, h4⟩ := key
  refine ⟨_, h3, fun ρ n' w e d ty pos af gd hm he => ⟨_, by simp only [VR]; rfl, ?_⟩⟩
  obtain ⟨a, q, h5⟩ := h4 ρ _ (h2 ρ e he)
  simp [execOp, resolve, invoke, builtin, Builtin.len_, run_underlying ht, h5, goInt]
theorem q_lent {t : TypeId} {X : Operand} {x : LX} (ht : P.underlying t = some .string) (hx : lowX X = some x) (h : qLent x fr m c) : ∃ v, c v ∧ QOk P fr m (.call ⟨.builtin .len, #[X], #[t]⟩) v := by
  obtain ⟨v, h1, h2⟩ := evK_ok hx h
  obtain ⟨l, rfl, h3⟩ := onStr_ok h1
  refine ⟨_, tlenK_ok _ _ _ h3, fun ρ n' w e d ty pos af gd hm he => ⟨_, by simp only [VR]; rfl, ?_⟩⟩
  have := h2 ρ e he
  simp only [VR] at this
  simp [execOp, resolve, invoke, builtin, Builtin.len_, run_underlying ht, this.1, goInt, bts_size]
theorem q_lenc {t : TypeId} {n : Nat} {X : Operand} (ht : ∀ w ty x, (Builtin.len_ #[t] ty #[x]).run P w = .ok (.int .i64 n) w) (h : qLenc n fr m c) : ∃ v, c v ∧ QOk P fr m (.call ⟨.builtin .len, #[X], #[t]⟩) v :=
  ⟨_, h, fun ρ n' w e d ty pos af gd hm he => ⟨_, by simp only [VR]; rfl, by simp [execOp, resolve, invoke, builtin, ht]⟩⟩
theorem q_capv {t el : TypeId} {X : Operand} {x : LX} (ht : P.underlying t = some (.slice el)) (hx : lowX X = some x) (h : qCapv x fr m c) : ∃ v, c v ∧ QOk P fr m (.call ⟨.builtin .cap, #[X], #[t]⟩) v := by
  obtain ⟨v, h1, h2⟩ := evK_ok hx h
  have key : ∃ q : Nat, c (.int .i64 (.ofNat q)) ∧ ∀ ρ x, VR ρ v x → ∃ a n, x = .slice a n q := by
    cases v <;> first | exact h1.elim | skip
    · rename_i b o n q
      cases q with
      | k q => exact ⟨q, h1, fun ρ x e => by simp only [VR] at e; obtain ⟨a, k, _, rfl⟩ := e; exact ⟨_, _, rfl⟩⟩
      | r i => exact h1.elim
    · exact ⟨0, h1, fun ρ x e => by simp only [VR] at e; subst e; exact ⟨_, _, rfl⟩⟩
  obtain ⟨q, h3, h4⟩ := key
  refine ⟨_, h3, fun ρ n' w e d ty pos af gd hm he => ⟨_, by simp only [VR]; rfl, ?_⟩⟩
  obtain ⟨a, n, h5⟩ := h4 ρ _ (h2 ρ e he)
  simp [execOp, resolve, invoke, builtin, Builtin.cap_, run_underlying ht, h5, goInt]
theorem q_mm {tys : Array TypeId} {mx : Bool} {X Y : Operand} {x y : LX} (hx : lowX X = some x) (hy : lowX Y = some y) (h : qMm mx x y fr m c) : ∃ v, c v ∧ QOk P fr m (.call ⟨.builtin (if mx then .max else .min), #[X, Y], tys⟩) v := by
  obtain ⟨v, h1, h2⟩ := evK_ok hx h
  obtain ⟨u, h3, h4⟩ := evK_ok hy h1
  obtain ⟨k, a, rfl, h5⟩ := onInt_ok h3
  obtain ⟨j, b, rfl, h6⟩ := onInt_ok h5
  obtain ⟨rfl, h7⟩ := kK_ok h6
  have h8 := ltK_ok h7
  have key : c (.int k (if mx then (if b > a then b else a) else (if b < a then b else a))) := by
    rcases bK_ok h8 with ⟨h9, h10⟩ | ⟨h9, h10⟩
    · have h9 : a < b := of_decide_eq_true h9
      cases mx with
      | true => simpa [h9] using (show c (.int k b) from h10)
      | false => simpa [show ¬ b < a by omega] using (show c (.int k a) from h10)
    · have h9 : ¬ a < b := of_decide_eq_false h9
      cases mx with
      | true => simpa [h9] using (show c (.int k a) from h10)
      | false =>
        have h11 := ltK_ok (show ltK b a _ from h10)
        rcases bK_ok h11 with ⟨h12, h13⟩ | ⟨h12, h13⟩
        · have h12 : b < a := of_decide_eq_true h12
          simpa [h12] using h13
        · have h12 : ¬ b < a := of_decide_eq_false h12
          simpa [h12] using h13
  refine ⟨_, key, fun ρ n' w e d ty pos af gd hm he => ⟨_, by simp only [VR]; rfl, ?_⟩⟩
  have e1 := h2 ρ e he
  have e2 := h4 ρ e he
  simp only [VR] at e1 e2
  cases mx
  · simp [execOp, resolve, invoke, builtin, Builtin.min_, e1, e2, Builtin.min2]
  · simp [execOp, resolve, invoke, builtin, Builtin.max_, e1, e2, Builtin.max2]
theorem q_arr {t el : TypeId} {n : Nat} {X : Operand} {x : LX} (ht : P.underlying t = some (.array n el)) (hx : lowX X = some x) (h : qArr n x fr m c) : ∃ v, c v ∧ QOk P fr m (.sliceToArrayPointer t X) v := by
  obtain ⟨v, h1, h2⟩ := evK_ok hx h
  obtain ⟨b, o, k, q, rfl, h3⟩ := onSlice_ok h1
  obtain ⟨h4, h5⟩ := bK_t h3
  have h4 := Nat.le_of_ble_eq_true h4
  refine ⟨_, h5, fun ρ n' w e d ty pos af gd hm he => ?_⟩
  have e1 := h2 ρ e he
  have e3 : ∃ a k' q', ρ b = some (a, k') ∧ e X = .slice (some ⟨a, o, none⟩) k q' := by
    cases q <;> simp only [VR] at e1 <;> obtain ⟨a, k, e4, e5⟩ := e1 <;> exact ⟨a, k, _, e4, e5⟩
  obtain ⟨a, k', q', e4, e5⟩ := e3
  refine ⟨.pointer (some ⟨a, o, none⟩), by simp only [VR]; exact ⟨a, k', e4, rfl⟩, run_v ?_⟩
  simp [Instr.arrayAt, run_underlying ht, e5, show ¬ k < n by omega]
end
end Go.Ev
end
section
set_option linter.all false
set_option linter.unusedVariables false
set_option linter.unusedSimpArgs false
namespace Go.Ev
open Go
section
variable {P : Program} {fr : Fm} {m : Mem} {c : SV → Prop}

/-- A bound of a slice expression, or what stands for it. -/
def Bnd (e : Operand → Value) (O : Option Operand) (d n : Nat) : Prop := (O = none → n = d) ∧ ∀ Y, O = some Y → ∃ k, e Y = .int k n
theorem oxK_ok {O : Option Operand} {x : OX} {d : Nat} {c : Nat → Prop} (hx : lowOX O = some x) (h : oxK x d fr c) : ∃ n, c n ∧ ∀ ρ e, EvR ρ fr e → Bnd e O d n := by
  cases O with
  | none =>
    simp only [lowOX, Option.some.injEq] at hx; subst hx
    exact ⟨d, h, fun ρ e he => ⟨fun _ => rfl, fun Y hY => (by cases hY)⟩⟩
  | some X =>
    simp only [lowOX] at hx
    cases h1 : lowX X with
    | none => rw [h1] at hx; cases hx
    | some y =>
      rw [h1] at hx; injection hx with hx; subst hx
      obtain ⟨v, h2, h3⟩ := evK_ok h1 h
      obtain ⟨k, n, rfl, h4⟩ := idxK_ok h2
      refine ⟨n, h4, fun ρ e he => ⟨fun hn => (by cases hn), fun Y hY => ?_⟩⟩
      injection hY with hY; subst hY
      have := h3 ρ e he
      simp only [VR] at this
      exact ⟨k, this⟩
theorem oxIs_ok {O : Option Operand} {x : OX} {a b : Prop} (hx : lowOX O = some x) (h : oxIs x a b) : (O = none ∧ a) ∨ ((∃ Y, O = some Y) ∧ b) := by
  cases O with
  | none => simp only [lowOX, Option.some.injEq] at hx; subst hx; exact .inl ⟨rfl, h⟩
  | some X =>
    simp only [lowOX] at hx
    cases h1 : lowX X with
    | none => rw [h1] at hx; cases hx
    | some y => rw [h1] at hx; injection hx with hx; subst hx; exact .inr ⟨⟨X, rfl⟩, h⟩
theorem run_bound {v : Value} {k : IntKind} {n y : Nat} {code : BoundsCode} {w : World} (hv : v = .int k n) (h : n ≤ y) : (Instr.sliceBound v y code).run P w = .ok n w := by
  subst hv
  have : (0 : Int) ≤ n ∧ (n : Int) ≤ y := by omega
  simp [Instr.sliceBound, asIntOf, h]
theorem run_bounds {b : Bool} {len cap l h mx : Nat} {lo hi max : Option Operand} {e : Operand → Value} {w : World} (hs : (max.isSome && hi.isNone) = false) (h1 : Bnd e lo 0 l) (h2 : Bnd e hi len h) (h3 : Bnd e max cap mx)
    (h4 : l ≤ h) (h5 : h ≤ mx) (h6 : mx ≤ cap) : (Instr.sliceBounds b len cap (lo.map e) (hi.map e) (max.map e)).run P w = .ok (l, h, mx) w := by
  cases lo with
  | none =>
    have := h1.1 rfl; subst this
    cases hi with
    | none =>
      have := h2.1 rfl; subst this
      cases max with
      | none => have := h3.1 rfl; subst this; simp [Instr.sliceBounds]
      | some M => simp at hs
    | some H =>
      obtain ⟨k, hk⟩ := h2.2 H rfl
      cases max with
      | none => have := h3.1 rfl; subst this; simp [Instr.sliceBounds, run_bound hk h5]
      | some M => obtain ⟨k', hk'⟩ := h3.2 M rfl; simp [Instr.sliceBounds, run_bound hk h5, run_bound hk' h6]
  | some L =>
    obtain ⟨k0, hk0⟩ := h1.2 L rfl
    cases hi with
    | none =>
      have := h2.1 rfl; subst this
      cases max with
      | none => have := h3.1 rfl; subst this; simp [Instr.sliceBounds, run_bound hk0 h4]
      | some M => simp at hs
    | some H =>
      obtain ⟨k, hk⟩ := h2.2 H rfl
      cases max with
      | none => have := h3.1 rfl; subst this; simp [Instr.sliceBounds, run_bound hk h5, run_bound hk0 h4]
      | some M => obtain ⟨k', hk'⟩ := h3.2 M rfl; simp [Instr.sliceBounds, run_bound hk h5, run_bound hk' h6, run_bound hk0 h4]
theorem begK_ok {l m o z : Nat} {c : Nat → Prop} (h : begK l m o z c) : c (if m = l then o else o + l * z) := by
  rcases bK_ok h with ⟨h1, h2⟩ | ⟨h1, h2⟩
  · rw [if_pos (Nat.eq_of_beq_eq_true h1)]; exact h2
  · rw [if_neg (beq_not.1 h1)]; exact natK_ok h2
theorem cutK_ok {z : Nat} {b : Pos} {o l h m : Nat} {c : SV → Prop} (hc : cutK z b o l h m c) : c (.slice b (if m = l then o else o + l * z) (h - l) (.k (m - l))) := by
  have h1 := natK_ok hc
  have h2 := natK_ok h1
  exact begK_ok (c := fun o => c (.slice b o (h - l) (.k (m - l)))) h2
theorem known_ok {z n q : Nat} {b : Pos} {o : Nat} {LO_ HI MX : Option Operand} {lo hi mx : OX} (h1 : lowOX LO_ = some lo) (h2 : lowOX HI = some hi) (h3 : lowOX MX = some mx) (h : slKnown z n q b o lo hi mx fr c) :
    ∃ l h m, c (.slice b (if m = l then o else o + l * z) (h - l) (.k (m - l))) ∧ l ≤ h ∧ h ≤ m ∧ m ≤ q ∧ ∀ ρ e, EvR ρ fr e → Bnd e LO_ 0 l ∧ Bnd e HI n h ∧ Bnd e MX q m := by
  obtain ⟨m, h4, h5⟩ := oxK_ok h3 h
  obtain ⟨h6, h7⟩ := bK_t h4
  obtain ⟨k, h8, h9⟩ := oxK_ok h2 h7
  obtain ⟨h10, h11⟩ := bK_t h8
  obtain ⟨l, h12, h13⟩ := oxK_ok h1 h11
  obtain ⟨h14, h15⟩ := bK_t h12
  exact ⟨l, k, m, cutK_ok h15, Nat.le_of_ble_eq_true h14, Nat.le_of_ble_eq_true h10, Nat.le_of_ble_eq_true h6, fun ρ e he => ⟨h13 ρ e he, h9 ρ e he, h5 ρ e he⟩⟩
theorem addr_if (p : Prop) [Decidable p] (a o k : Nat) : (if p then (⟨a, o, none⟩ : Addr) else (⟨a, o, none⟩ : Addr).add k) = ⟨a, if p then o else o + k, none⟩ := by split <;> simp [add_lit, *]
theorem q_slcA {t el : TypeId} {n z : Nat} {X : Operand} {LO_ HI MX : Option Operand} {x : LX} {lo hi mx : OX} (hs : (MX.isSome && HI.isNone) = false) (ht : P.underlying t = some (.array n el)) (hz : szT P el = some z) (hx : lowX X = some x) (h1 : lowOX LO_ = some lo) (h2 : lowOX HI = some hi) (h3 : lowOX MX = some mx)
    (h : qSlc (.arr n z) x lo hi mx fr m c) : ∃ v, c v ∧ QOk P fr m (.slice t X LO_ HI MX) v := by
  obtain ⟨v, h4, h5⟩ := evK_ok hx h
  obtain ⟨b, o, rfl, h6⟩ := onPtr_ok h4
  obtain ⟨l, k, q, h7, h8, h9, h10, h11⟩ := known_ok h1 h2 h3 h6
  refine ⟨_, h7, fun ρ n' w e d ty pos af gd hm he => ?_⟩
  have e1 := h5 ρ e he
  simp only [VR] at e1
  obtain ⟨a, k', e2, e3⟩ := e1
  obtain ⟨e4, e5, e6⟩ := h11 ρ e he
  refine ⟨.slice (some ⟨a, if q = l then o else o + l * z, none⟩) (k - l) (q - l), by simp only [VR]; exact ⟨a, k', e2, rfl⟩, run_v ?_⟩
  simp only [Instr.sliceAt, Sem.run_bind, run_underlying ht, Result.andThen_ok, e3, Instr.sureAddr, Sem.run_pure, run_bounds hs e4 e5 e6 h8 h9 h10, szT_run hz, addr_if]
theorem q_slcT {t : TypeId} {X : Operand} {LO_ HI MX : Option Operand} {x : LX} {lo hi mx : OX} (ht : P.underlying t = some .string) (hx : lowX X = some x) (h1 : lowOX LO_ = some lo) (h2 : lowOX HI = some hi) (h3 : lowOX MX = some mx)
    (h : qSlc .str x lo hi mx fr m c) : ∃ v, c v ∧ QOk P fr m (.slice t X LO_ HI MX) v := by
  obtain ⟨v, h4, h5⟩ := evK_ok hx h
  obtain ⟨s, rfl, h6⟩ := onStr_ok h4
  rcases oxIs_ok h3 h6 with ⟨rfl, h7⟩ | ⟨_, h7⟩
  · have h8 := tlenK_ok _ _ _ h7
    obtain ⟨k, h9, h10⟩ := oxK_ok h2 h8
    obtain ⟨h11, h12⟩ := bK_t h9
    obtain ⟨l, h13, h14⟩ := oxK_ok h1 h12
    obtain ⟨h15, h16⟩ := bK_t h13
    obtain ⟨h17, _⟩ := tdropK_ok _ _ _ h16
    obtain ⟨h18, _⟩ := ttakeK_ok _ _ _ (natK_ok h17)
    have h11 := Nat.le_of_ble_eq_true h11
    have h15 := Nat.le_of_ble_eq_true h15
    rw [Nat.zero_add] at h11 h10
    refine ⟨_, h18, fun ρ n' w e d ty pos af gd hm he => ?_⟩
    have e1 := h5 ρ e he
    simp only [VR] at e1
    refine ⟨.string ((bts s).extract l k), ?_, run_v ?_⟩
    · simp only [VR]
      refine ⟨?_, fun b hb => e1.2 b (List.mem_of_mem_drop (List.mem_of_mem_take hb))⟩
      congr 1
      apply ByteArray.ext
      simp [bts, List.map_take, List.map_drop]
    · have hb := run_bounds (P := P) (b := false) (w := w) (lo := LO_) (hi := HI) (max := none) (len := s.length) (cap := s.length) (by simp) (h14 ρ e he) (h10 ρ e he) (mx := s.length) ⟨fun _ => rfl, fun Y hY => (by cases hY)⟩ h15 h11 (Nat.le_refl _)
      simp only [Option.map_none] at hb
      simp [Instr.sliceAt, run_underlying ht, Instr.slice, e1.1, bts_size, hb]
  · exact h7.elim
theorem heldK_ok {b : Pos} {o n z i : Nat} {c : Prop} (h : heldK b o n z i m c) : c ∧ o = i * z ∧ 1 ≤ z ∧ ∃ l r, Tr.get b m = some (.grow l z) ∧ ∀ ρ vs, LV ρ l vs → LV ρ r ((vs.drop o).take (n * z)) ∧ o + n * z ≤ vs.length := by
  obtain ⟨h1, h2⟩ := bK_t h
  obtain ⟨h3, h4⟩ := bK_t h2
  obtain ⟨ob, h5, h6⟩ := getK_ok _ _ _ h4
  obtain ⟨l, z', rfl, h7⟩ := onGrow_ok h6
  obtain ⟨h8, h9⟩ := bK_t h7
  have h8 := Nat.eq_of_beq_eq_true h8
  subst h8
  obtain ⟨r, h10, h11⟩ := rangeK_ok h9
  exact ⟨h10, Nat.eq_of_beq_eq_true h1, Nat.le_of_ble_eq_true h3, l, r, h5, h11⟩
/-- A row that may have grown has room for what is seen of it. -/
theorem held_cap {ρ : Env} {n' : Pos} {w : World} {b : Pos} {o n z i a k : Nat} {l r : SV} (hm : Rel P ρ n' m w) (hb : Tr.get b m = some (.grow l z)) (hr : ρ b = some (a, k)) (ho : o = i * z) (hz : 1 ≤ z) (hl : ∀ ρ vs, LV ρ l vs → LV ρ r ((vs.drop o).take (n * z)) ∧ o + n * z ≤ vs.length) : n ≤ k - i ∧ (n = 0 ∨ i ≤ k) := by
  obtain ⟨ob, h1, vs, zs, T, f, rfl, h2, h3, h4⟩ := hm.at hb hr
  obtain ⟨_, h5⟩ := hl ρ vs h2
  rw [List.length_append] at h4
  subst ho
  have h6 : (i + n) * z ≤ k * z := by rw [Nat.add_mul]; omega
  have h7 := Nat.le_of_mul_le_mul_right h6 hz
  omega
theorem q_slcS {t el : TypeId} {z : Nat} {X : Operand} {LO_ HI MX : Option Operand} {x : LX} {lo hi mx : OX} (hs : (MX.isSome && HI.isNone) = false) (ht : P.underlying t = some (.slice el)) (hz : szT P el = some z) (hx : lowX X = some x) (h1 : lowOX LO_ = some lo) (h2 : lowOX HI = some hi) (h3 : lowOX MX = some mx)
    (h : qSlc (.sl z) x lo hi mx fr m c) : ∃ v, c v ∧ QOk P fr m (.slice t X LO_ HI MX) v := by
  obtain ⟨v, h4, h5⟩ := evK_ok hx h
  cases v <;> first | exact h4.elim | skip
  · rename_i b o n q
    cases q with
    | k q =>
      obtain ⟨l, k, mm, h7, h8, h9, h10, h11⟩ := known_ok h1 h2 h3 h4
      refine ⟨_, h7, fun ρ n' w e d ty pos af gd hm he => ?_⟩
      have e1 := h5 ρ e he
      simp only [VR] at e1
      obtain ⟨a, k', e2, e3⟩ := e1
      obtain ⟨e4, e5, e6⟩ := h11 ρ e he
      refine ⟨.slice (some ⟨a, if mm = l then o else o + l * z, none⟩) (k - l) (mm - l), by simp only [VR]; exact ⟨a, k', e2, rfl⟩, run_v ?_⟩
      simp only [Instr.sliceAt, Instr.slice, Sem.run_bind, run_underlying ht, Result.andThen_ok, e3, Sem.run_pure, run_bounds hs e4 e5 e6 h8 h9 h10, szT_run hz, Option.map_some]
      congr 1
      split <;> simp [add_lit, *]
    | r i =>
      obtain ⟨h6, ho, hzp, l0, r0, hb, hl⟩ := heldK_ok (show heldK b o n z i m _ from h4)
      rcases oxIs_ok h3 h6 with ⟨rfl, h7⟩ | ⟨⟨Y0, hY0⟩, h7⟩
      · obtain ⟨k, h8, h9⟩ := oxK_ok h2 h7
        obtain ⟨h10, h11⟩ := bK_t h8
        obtain ⟨l, h12, h13⟩ := oxK_ok h1 h11
        obtain ⟨h14, h15⟩ := bK_t h12
        have h10 := Nat.le_of_ble_eq_true h10
        have h14 := Nat.le_of_ble_eq_true h14
        have run : ∀ (ρ : Env) (w : World) (e : Operand → Value) (a k' : Nat), EvR ρ fr e → e X = .slice (some ⟨a, o, none⟩) n (k' - i) → n ≤ k' - i →
            (Instr.sliceAt t (e X) (LO_.map e) (HI.map e) (none : Option Value)).run P w = .ok (.slice (some ⟨a, if k' - i = l then o else o + l * z, none⟩) (k - l) (k' - i - l)) w := fun ρ w e a k' he hX hn => by
          have hbd := run_bounds (P := P) (b := true) (w := w) (lo := LO_) (hi := HI) (max := none) (len := n) (cap := k' - i) (by simp) (h13 ρ e he) (h9 ρ e he) (mx := k' - i) ⟨fun _ => rfl, fun Y hY => (by cases hY)⟩ h14 (by omega) (Nat.le_refl _)
          simp only [Option.map_none] at hbd
          simp only [Instr.sliceAt, Instr.slice, Sem.run_bind, run_underlying ht, Result.andThen_ok, hX, Sem.run_pure, hbd, szT_run hz, Option.map_some]
          congr 1
          split <;> simp [add_lit, *]
        rcases bK_ok h15 with ⟨h16, h17⟩ | ⟨h16, h17⟩
        · have h16 := blt_iff.1 h16
          have a1 := natK_ok h17
          have a2 := natK_ok a1
          have h18 := natK_ok a2
          refine ⟨_, h18, fun ρ n' w e d ty pos af gd hm he => ?_⟩
          have e1 := h5 ρ e he
          simp only [VR] at e1
          obtain ⟨a, k', e2, e3⟩ := e1
          obtain ⟨hcap, _⟩ := held_cap hm hb e2 ho hzp hl
          refine ⟨_, ?_, run_v (run ρ w e a k' he e3 hcap)⟩
          simp only [VR]
          refine ⟨a, k', e2, ?_⟩
          rw [if_neg (by omega)]
          congr 1
          show k' - i - l = k' - (i + l)
          omega
        · have h16 := blt_not.1 h16
          have h18 := natK_ok h17
          cases l with
          | zero =>
            have hn0 : n = 0 := by omega
            subst hn0
            refine ⟨_, h18, fun ρ n' w e d ty pos af gd hm he => ?_⟩
            have e1 := h5 ρ e he
            refine ⟨_, e1, run_v ?_⟩
            simp only [VR] at e1
            obtain ⟨a, k', e2, e3⟩ := e1
            have := run ρ w e a k' he e3 (Nat.zero_le _)
            simp only [e3, Option.map_none] at this ⊢
            rw [this]
            have hk : k = 0 := by omega
            subst hk
            simp
          | succ l =>
            refine ⟨_, h18, fun ρ n' w e d ty pos af gd hm he => ?_⟩
            have e1 := h5 ρ e he
            simp only [VR] at e1
            obtain ⟨a, k', e2, e3⟩ := e1
            obtain ⟨hcap, _⟩ := held_cap hm hb e2 ho hzp hl
            refine ⟨_, ?_, run_v (run ρ w e a k' he e3 hcap)⟩
            simp only [VR]
            refine ⟨a, k', (if k' - i = l + 1 then o else o + (l + 1) * z), e2, ?_⟩
            have hk : k - (l + 1) = 0 := by omega
            rw [hk]
            congr 1
            show k' - i - (l + 1) = k' - (i + (l + 1))
            omega
      · obtain ⟨mm, h8, h9⟩ := oxK_ok h3 h7
        obtain ⟨h10, h11⟩ := bK_t h8
        obtain ⟨k, h12, h13⟩ := oxK_ok h2 h11
        obtain ⟨h14, h15⟩ := bK_t h12
        obtain ⟨l, h16, h17⟩ := oxK_ok h1 h15
        obtain ⟨h18, h19⟩ := bK_t h16
        have h10 := Nat.le_of_ble_eq_true h10
        have h14 := Nat.le_of_ble_eq_true h14
        have h18 := Nat.le_of_ble_eq_true h18
        refine ⟨_, cutK_ok h19, fun ρ n' w e d ty pos af gd hm he => ?_⟩
        have e1 := h5 ρ e he
        simp only [VR] at e1
        obtain ⟨a, k', e2, e3⟩ := e1
        obtain ⟨hcap, _⟩ := held_cap hm hb e2 ho hzp hl
        refine ⟨.slice (some ⟨a, if mm = l then o else o + l * z, none⟩) (k - l) (mm - l), by simp only [VR]; exact ⟨a, k', e2, rfl⟩, run_v ?_⟩
        have hb9 : Bnd e MX (k' - i) mm := ⟨fun hN => (by rw [hY0] at hN; cases hN), (h9 ρ e he).2⟩
        simp only [Instr.sliceAt, Instr.slice, Sem.run_bind, run_underlying ht, Result.andThen_ok, e3, Sem.run_pure, run_bounds hs (h17 ρ e he) (h13 ρ e he) hb9 h18 h14 (by omega), szT_run hz, Option.map_some]
        congr 1
        split <;> simp [add_lit, *]
  · rename_i b i
    rcases oxIs_ok h3 h4 with ⟨rfl, h7⟩ | ⟨_, h7⟩
    · obtain ⟨l, h8, h9⟩ := oxK_ok h1 h7
      obtain ⟨k, h10, h11⟩ := oxK_ok h2 h8
      obtain ⟨mm, h12, h13⟩ := oxK_ok h3 h10
      obtain ⟨h14, h15⟩ := bK_t h12
      obtain ⟨h16, h17⟩ := bK_t h15
      obtain ⟨_, h18⟩ := bK_t h17
      have h14 := Nat.eq_of_beq_eq_true h14
      have h16 := Nat.eq_of_beq_eq_true h16
      subst h14 h16
      refine ⟨_, h18, fun ρ n' w e d ty pos af gd hm he => ?_⟩
      have e1 := h5 ρ e he
      refine ⟨_, e1, run_v ?_⟩
      simp only [VR] at e1
      obtain ⟨a, k', o, e2, e3⟩ := e1
      have hbd := run_bounds (P := P) (b := true) (w := w) (lo := LO_) (hi := HI) (max := none) (len := 0) (cap := k' - i) (by simp) (h9 ρ e he) (h11 ρ e he) (mx := k' - i) ⟨fun _ => rfl, fun Y hY => (by cases hY)⟩ (Nat.le_refl _) (Nat.zero_le _) (Nat.le_refl _)
      simp only [Option.map_none] at hbd
      simp only [Instr.sliceAt, Instr.slice, Sem.run_bind, run_underlying ht, Result.andThen_ok, e3, Sem.run_pure, hbd, szT_run hz, Option.map_some, Option.map_none]
      congr 1
      split <;> simp [add_lit, *]
    · exact h7.elim
  · obtain ⟨l, h8, h9⟩ := oxK_ok h1 h4
    obtain ⟨k, h10, h11⟩ := oxK_ok h2 h8
    obtain ⟨mm, h12, h13⟩ := oxK_ok h3 h10
    obtain ⟨h14, h15⟩ := bK_t h12
    obtain ⟨h16, h17⟩ := bK_t h15
    obtain ⟨h19, h18⟩ := bK_t h17
    have h14 := Nat.eq_of_beq_eq_true h14
    have h16 := Nat.eq_of_beq_eq_true h16
    have h19 := Nat.eq_of_beq_eq_true h19
    subst h14 h16 h19
    refine ⟨_, h18, fun ρ n' w e d ty pos af gd hm he => ?_⟩
    have e1 := h5 ρ e he
    refine ⟨_, e1, run_v ?_⟩
    simp only [VR] at e1
    have hbd := run_bounds (P := P) (b := true) (w := w) (lo := LO_) (hi := HI) (max := MX) (len := 0) (cap := 0) hs (h9 ρ e he) (h11 ρ e he) (h13 ρ e he) (Nat.le_refl _) (Nat.le_refl _) (Nat.le_refl _)
    simp only [Instr.sliceAt, Instr.slice, Sem.run_bind, run_underlying ht, Result.andThen_ok, e1, Sem.run_pure, hbd, szT_run hz, Option.map_none]
    simp
end
end Go.Ev
end
