/-
  Further calls with known outcomes. No condition.
-/
import Derived.Test.YtbfeggodaaojgaaGreatDoorBa09
import Derived.Test.YtbfeggodaaojgaaGreatDoorProg
set_option linter.all false
section
set_option linter.all false
set_option maxRecDepth 100000
set_option maxHeartbeats 0
set_option linter.unusedVariables false
namespace Go.Ev.Z
open Go Go.Ev Go.Proofs
noncomputable section
def Rh (k : Kn) : Prop := runN Tryz.prog (fun cl => cl) [41, 219, 286] 100000000 k.fn k.l k.r k.n k.endK True
theorem kh_run : (Rh k_nil ∧ Rh k_h0 ∧ Rh k_h1 ∧ Rh k_h2 ∧ Rh k_h3 ∧ Rh k_h4 ∧ Rh k_h5 ∧ Rh k_h6 ∧ Rh k_h7 ∧ Rh k_h8) = (((k_nil.v = k_nil.v ∧ k_nil.m = k_nil.m) ∧ k_nil.n' = k_nil.n' ∧ True) ∧ ((k_h0.v = k_h0.v ∧ k_h0.m = k_h0.m) ∧ k_h0.n' = k_h0.n' ∧ True) ∧ ((k_h1.v = k_h1.v ∧ k_h1.m = k_h1.m) ∧ k_h1.n' = k_h1.n' ∧ True) ∧ ((k_h2.v = k_h2.v ∧ k_h2.m = k_h2.m) ∧ k_h2.n' = k_h2.n' ∧ True) ∧ ((k_h3.v = k_h3.v ∧ k_h3.m = k_h3.m) ∧ k_h3.n' = k_h3.n' ∧ True) ∧ ((k_h4.v = k_h4.v ∧ k_h4.m = k_h4.m) ∧ k_h4.n' = k_h4.n' ∧ True) ∧ ((k_h5.v = k_h5.v ∧ k_h5.m = k_h5.m) ∧ k_h5.n' = k_h5.n' ∧ True) ∧ ((k_h6.v = k_h6.v ∧ k_h6.m = k_h6.m) ∧ k_h6.n' = k_h6.n' ∧ True) ∧ ((k_h7.v = k_h7.v ∧ k_h7.m = k_h7.m) ∧ k_h7.n' = k_h7.n' ∧ True) ∧ ((k_h8.v = k_h8.v ∧ k_h8.m = k_h8.m) ∧ k_h8.n' = k_h8.n' ∧ True)) := by kernel_rfl
theorem kh_all : Rh k_nil ∧ Rh k_h0 ∧ Rh k_h1 ∧ Rh k_h2 ∧ Rh k_h3 ∧ Rh k_h4 ∧ Rh k_h5 ∧ Rh k_h6 ∧ Rh k_h7 ∧ Rh k_h8 := kh_run.mpr ⟨⟨⟨rfl, rfl⟩, rfl, trivial⟩, ⟨⟨rfl, rfl⟩, rfl, trivial⟩, ⟨⟨rfl, rfl⟩, rfl, trivial⟩, ⟨⟨rfl, rfl⟩, rfl, trivial⟩, ⟨⟨rfl, rfl⟩, rfl, trivial⟩, ⟨⟨rfl, rfl⟩, rfl, trivial⟩, ⟨⟨rfl, rfl⟩, rfl, trivial⟩, ⟨⟨rfl, rfl⟩, rfl, trivial⟩, ⟨⟨rfl, rfl⟩, rfl, trivial⟩, ⟨⟨rfl, rfl⟩, rfl, trivial⟩⟩
theorem Rh.ok {k : Kn} (h : Rh k) : KnOk Tryz.prog k := ⟨_, runN_ok (by kernel_rfl) TabOk.id [41, 219, 286] 100000000, h⟩
theorem k_nil_ok : KnOk Tryz.prog k_nil := Rh.ok kh_all.1
theorem k_h0_ok : KnOk Tryz.prog k_h0 := Rh.ok kh_all.2.1
theorem k_h1_ok : KnOk Tryz.prog k_h1 := Rh.ok kh_all.2.2.1
theorem k_h2_ok : KnOk Tryz.prog k_h2 := Rh.ok kh_all.2.2.2.1
theorem k_h3_ok : KnOk Tryz.prog k_h3 := Rh.ok kh_all.2.2.2.2.1
theorem k_h4_ok : KnOk Tryz.prog k_h4 := Rh.ok kh_all.2.2.2.2.2.1
theorem k_h5_ok : KnOk Tryz.prog k_h5 := Rh.ok kh_all.2.2.2.2.2.2.1
theorem k_h6_ok : KnOk Tryz.prog k_h6 := Rh.ok kh_all.2.2.2.2.2.2.2.1
theorem k_h7_ok : KnOk Tryz.prog k_h7 := Rh.ok kh_all.2.2.2.2.2.2.2.2.1
theorem k_h8_ok : KnOk Tryz.prog k_h8 := Rh.ok kh_all.2.2.2.2.2.2.2.2.2
theorem kPath_run (x0 x1 x2 x3 x4 x5 x6 x7 x8 x9 x10 x11 x12 x13 x14 x15 x16 x17 x18 x19 x20 x21 x22 x23 x24 x25 x26 x27 x28 x29 x30 x31 : Nat) : runN Tryz.prog (fun cl => cl) [41, 219, 286] 100000000 (kPath x0 x1 x2 x3 x4 x5 x6 x7 x8 x9 x10 x11 x12 x13 x14 x15 x16 x17 x18 x19 x20 x21 x22 x23 x24 x25 x26 x27 x28 x29 x30 x31).fn (kPath x0 x1 x2 x3 x4 x5 x6 x7 x8 x9 x10 x11 x12 x13 x14 x15 x16 x17 x18 x19 x20 x21 x22 x23 x24 x25 x26 x27 x28 x29 x30 x31).l (kPath x0 x1 x2 x3 x4 x5 x6 x7 x8 x9 x10 x11 x12 x13 x14 x15 x16 x17 x18 x19 x20 x21 x22 x23 x24 x25 x26 x27 x28 x29 x30 x31).r (kPath x0 x1 x2 x3 x4 x5 x6 x7 x8 x9 x10 x11 x12 x13 x14 x15 x16 x17 x18 x19 x20 x21 x22 x23 x24 x25 x26 x27 x28 x29 x30 x31).n (kPath x0 x1 x2 x3 x4 x5 x6 x7 x8 x9 x10 x11 x12 x13 x14 x15 x16 x17 x18 x19 x20 x21 x22 x23 x24 x25 x26 x27 x28 x29 x30 x31).endK True = (((kPath x0 x1 x2 x3 x4 x5 x6 x7 x8 x9 x10 x11 x12 x13 x14 x15 x16 x17 x18 x19 x20 x21 x22 x23 x24 x25 x26 x27 x28 x29 x30 x31).v = (kPath x0 x1 x2 x3 x4 x5 x6 x7 x8 x9 x10 x11 x12 x13 x14 x15 x16 x17 x18 x19 x20 x21 x22 x23 x24 x25 x26 x27 x28 x29 x30 x31).v ∧ (kPath x0 x1 x2 x3 x4 x5 x6 x7 x8 x9 x10 x11 x12 x13 x14 x15 x16 x17 x18 x19 x20 x21 x22 x23 x24 x25 x26 x27 x28 x29 x30 x31).m = (kPath x0 x1 x2 x3 x4 x5 x6 x7 x8 x9 x10 x11 x12 x13 x14 x15 x16 x17 x18 x19 x20 x21 x22 x23 x24 x25 x26 x27 x28 x29 x30 x31).m) ∧ (kPath x0 x1 x2 x3 x4 x5 x6 x7 x8 x9 x10 x11 x12 x13 x14 x15 x16 x17 x18 x19 x20 x21 x22 x23 x24 x25 x26 x27 x28 x29 x30 x31).n' = (kPath x0 x1 x2 x3 x4 x5 x6 x7 x8 x9 x10 x11 x12 x13 x14 x15 x16 x17 x18 x19 x20 x21 x22 x23 x24 x25 x26 x27 x28 x29 x30 x31).n' ∧ True) := by kernel_rfl
theorem kPath_ok (x0 x1 x2 x3 x4 x5 x6 x7 x8 x9 x10 x11 x12 x13 x14 x15 x16 x17 x18 x19 x20 x21 x22 x23 x24 x25 x26 x27 x28 x29 x30 x31 : Nat) : KnOk Tryz.prog (kPath x0 x1 x2 x3 x4 x5 x6 x7 x8 x9 x10 x11 x12 x13 x14 x15 x16 x17 x18 x19 x20 x21 x22 x23 x24 x25 x26 x27 x28 x29 x30 x31) := ⟨_, runN_ok (by kernel_rfl) TabOk.id [41, 219, 286] 100000000, (kPath_run x0 x1 x2 x3 x4 x5 x6 x7 x8 x9 x10 x11 x12 x13 x14 x15 x16 x17 x18 x19 x20 x21 x22 x23 x24 x25 x26 x27 x28 x29 x30 x31).mpr ⟨⟨rfl, rfl⟩, rfl, trivial⟩⟩
end
end Go.Ev.Z
end
