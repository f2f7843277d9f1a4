/-
  The conditions of the functions. Conditions: none; printed by a program of our own.
-/
import Derived.Test.YtjbknheeiaaioaaTabSpec
set_option maxRecDepth 20000
namespace Go.Sx.N
def V_kSameRow : Prop :=
(∀ x0 : Int,
((Rng .i64 x0) →
(∀ x1 : Int,
((Rng .i64 x1) →
(∀ x2 : Int,
((Rng .i64 x2) →
(∀ b3 : Bool,
(∀ s4 : Sl,
((Ranged s4 [some .u16]) →
(∀ b5 : Bool,
(∀ s6 : Sl,
((Ranged s6 [some .u16]) →
(∀ x7 : Int,
((Rng .i64 x7) →
(∀ x8 : Int,
((Rng .i64 x8) →
(∀ x9 : Int,
((Rng .i64 x9) →
(∀ b10 : Bool,
(∀ s11 : Sl,
((Ranged s11 [some .u16]) →
(∀ b12 : Bool,
(∀ s13 : Sl,
((Ranged s13 [some .u16]) →
((p_kSameRow x0 x1 x2 (decide (b3 = true)) s4 (decide (b5 = true)) s6 x7 x8 x9 (decide (b10 = true)) s11 (decide (b12 = true)) s13) →
(((x0 = x7) →
(((x1 = x8) →
(((x2 = x9) →
(p_kSameFrac (decide (b3 = true)) s4 (decide (b5 = true)) s6 (decide (b10 = true)) s11 (decide (b12 = true)) s13) ∧
(∀ b14 : Bool,
((q_kSameFrac (decide (b3 = true)) s4 (decide (b5 = true)) s6 (decide (b10 = true)) s11 (decide (b12 = true)) s13 (decide (b14 = true))) →
(q_kSameRow x0 x1 x2 (decide (b3 = true)) s4 (decide (b5 = true)) s6 x7 x8 x9 (decide (b10 = true)) s11 (decide (b12 = true)) s13 (decide (b14 = true))) ∧ True))) ∧
(¬ (x2 = x9) →
(q_kSameRow x0 x1 x2 (decide (b3 = true)) s4 (decide (b5 = true)) s6 x7 x8 x9 (decide (b10 = true)) s11 (decide (b12 = true)) s13 (decide False)) ∧ True))) ∧
(¬ (x1 = x8) →
(q_kSameRow x0 x1 x2 (decide (b3 = true)) s4 (decide (b5 = true)) s6 x7 x8 x9 (decide (b10 = true)) s11 (decide (b12 = true)) s13 (decide False)) ∧ True))) ∧
(¬ (x0 = x7) →
(q_kSameRow x0 x1 x2 (decide (b3 = true)) s4 (decide (b5 = true)) s6 x7 x8 x9 (decide (b10 = true)) s11 (decide (b12 = true)) s13 (decide False)) ∧ True)))))))))))))))))))))))))))
def V_kSameRows : Prop :=
(∀ s0 : Sl,
((Ranged s0 [some .i64, some .i64, some .i64, none, none, none, none]) →
(∀ s1 : Sl,
((Ranged s1 [some .i64, some .i64, some .i64, none, none, none, none]) →
((p_kSameRows s0 s1) →
((Small s0) →
((Small s1) →
((((Sl.len s0) ≠ (Sl.len s1)) →
(q_kSameRows s0 s1 (decide False)) ∧ True) ∧
(¬ ((Sl.len s0) ≠ (Sl.len s1)) →
(∃ (J2 : Int → Prop) (M2 : Int → Nat), J2 0 ∧
(∀ x3 : Int,
((Rng .i64 x3) →
(J2 x3 →
((Small s0) →
(((x3 < (Sl.len s0)) →
((0 : Int) ≤ x3) ∧
(x3 < (Sl.len s0)) ∧
((0 : Int) ≤ x3) ∧
(x3 < (Sl.len s1)) ∧
((((Rng .i64 (Sl.int s0 x3 0)) →
((Rng .i64 (Sl.int s0 x3 1)) →
((Rng .i64 (Sl.int s0 x3 2)) →
((Ranged (Sl.sub s0 x3 4) [some .u16]) →
((Ranged (Sl.sub s0 x3 6) [some .u16]) →
((Rng .i64 (Sl.int s1 x3 0)) →
((Rng .i64 (Sl.int s1 x3 1)) →
((Rng .i64 (Sl.int s1 x3 2)) →
((Ranged (Sl.sub s1 x3 4) [some .u16]) →
((Ranged (Sl.sub s1 x3 6) [some .u16]) →
(p_kSameRow (Sl.int s0 x3 0) (Sl.int s0 x3 1) (Sl.int s0 x3 2) (decide (Sl.bool s0 x3 3 = true)) (Sl.sub s0 x3 4) (decide (Sl.bool s0 x3 5 = true)) (Sl.sub s0 x3 6) (Sl.int s1 x3 0) (Sl.int s1 x3 1) (Sl.int s1 x3 2) (decide (Sl.bool s1 x3 3 = true)) (Sl.sub s1 x3 4) (decide (Sl.bool s1 x3 5 = true)) (Sl.sub s1 x3 6)) ∧
(∀ b4 : Bool,
((q_kSameRow (Sl.int s0 x3 0) (Sl.int s0 x3 1) (Sl.int s0 x3 2) (decide (Sl.bool s0 x3 3 = true)) (Sl.sub s0 x3 4) (decide (Sl.bool s0 x3 5 = true)) (Sl.sub s0 x3 6) (Sl.int s1 x3 0) (Sl.int s1 x3 1) (Sl.int s1 x3 2) (decide (Sl.bool s1 x3 3 = true)) (Sl.sub s1 x3 4) (decide (Sl.bool s1 x3 5 = true)) (Sl.sub s1 x3 6) (decide (b4 = true))) →
(((¬ (b4 = true)) →
(q_kSameRows s0 s1 (decide False)) ∧ True) ∧
(¬ (¬ (b4 = true)) →
(Rng .i64 (x3 + 1)) ∧
(J2 (x3 + 1) ∧ M2 (x3 + 1) < M2 x3)))))))))))))))) ∧
(((Rng .i64 (Sl.int s1 x3 0)) →
((Rng .i64 (Sl.int s1 x3 1)) →
((Rng .i64 (Sl.int s1 x3 2)) →
((Ranged (Sl.sub s1 x3 4) [some .u16]) →
((Ranged (Sl.sub s1 x3 6) [some .u16]) →
((Rng .i64 (Sl.int s0 x3 0)) →
((Rng .i64 (Sl.int s0 x3 1)) →
((Rng .i64 (Sl.int s0 x3 2)) →
((Ranged (Sl.sub s0 x3 4) [some .u16]) →
((Ranged (Sl.sub s0 x3 6) [some .u16]) →
(p_kSameRow (Sl.int s0 x3 0) (Sl.int s0 x3 1) (Sl.int s0 x3 2) (decide (Sl.bool s0 x3 3 = true)) (Sl.sub s0 x3 4) (decide (Sl.bool s0 x3 5 = true)) (Sl.sub s0 x3 6) (Sl.int s1 x3 0) (Sl.int s1 x3 1) (Sl.int s1 x3 2) (decide (Sl.bool s1 x3 3 = true)) (Sl.sub s1 x3 4) (decide (Sl.bool s1 x3 5 = true)) (Sl.sub s1 x3 6)) ∧
(∀ b4 : Bool,
((q_kSameRow (Sl.int s0 x3 0) (Sl.int s0 x3 1) (Sl.int s0 x3 2) (decide (Sl.bool s0 x3 3 = true)) (Sl.sub s0 x3 4) (decide (Sl.bool s0 x3 5 = true)) (Sl.sub s0 x3 6) (Sl.int s1 x3 0) (Sl.int s1 x3 1) (Sl.int s1 x3 2) (decide (Sl.bool s1 x3 3 = true)) (Sl.sub s1 x3 4) (decide (Sl.bool s1 x3 5 = true)) (Sl.sub s1 x3 6) (decide (b4 = true))) →
(((¬ (b4 = true)) →
(q_kSameRows s0 s1 (decide False)) ∧ True) ∧
(¬ (¬ (b4 = true)) →
(Rng .i64 (x3 + 1)) ∧
(J2 (x3 + 1) ∧ M2 (x3 + 1) < M2 x3)))))))))))))))))) ∧
(¬ (x3 < (Sl.len s0)) →
(q_kSameRows s0 s1 (decide True)) ∧ True))))))))))))))))
def V_kSameTable : Prop :=
(∀ y0 : ByteArray,
(∀ b1 : Bool,
(∀ s2 : Sl,
((Ranged s2 [some .i64, some .i64, some .i64, none, none, none, none]) →
(∀ y3 : ByteArray,
(∀ b4 : Bool,
(∀ s5 : Sl,
((Ranged s5 [some .i64, some .i64, some .i64, none, none, none, none]) →
((p_kSameTable y0 (decide (b1 = true)) s2 y3 (decide (b4 = true)) s5) →
(((y0 = y3) →
((((b1 = true) ↔ (b4 = true)) →
(p_kSameRows s2 s5) ∧
(∀ b6 : Bool,
((q_kSameRows s2 s5 (decide (b6 = true))) →
(q_kSameTable y0 (decide (b1 = true)) s2 y3 (decide (b4 = true)) s5 (decide (b6 = true))) ∧ True))) ∧
(¬ ((b1 = true) ↔ (b4 = true)) →
(q_kSameTable y0 (decide (b1 = true)) s2 y3 (decide (b4 = true)) s5 (decide False)) ∧ True))) ∧
(¬ (y0 = y3) →
(q_kSameTable y0 (decide (b1 = true)) s2 y3 (decide (b4 = true)) s5 (decide False)) ∧ True)))))))))))
def V_Pool : Prop :=
(∀ x0 : Int,
((Rng .u16 x0) →
((p_Pool x0) →
((8 : Int) ≠ 0) ∧
(Rng .u16 (Int.tmod x0 8)) ∧
((0 : Int) ≤ (Int.tmod x0 8)) ∧
((Int.tmod x0 8) < 8) ∧
((((Int.tmod x0 8) = 0) →
(p_kFrac 0 1) ∧
(∀ b1 : Bool,
(∀ s2 : Sl,
((Ranged s2 [some .u16]) →
(∀ b3 : Bool,
(∀ s4 : Sl,
((Ranged s4 [some .u16]) →
((q_kFrac 0 1 (decide (b1 = true)) s2 (decide (b3 = true)) s4) →
(q_Pool x0 2 (decide (b1 = true)) s2 (decide (b3 = true)) s4 0) ∧ True)))))))) ∧
(¬ ((Int.tmod x0 8) = 0) →
((((Int.tmod x0 8) = 1) →
(p_kFrac 1 1) ∧
(∀ b1 : Bool,
(∀ s2 : Sl,
((Ranged s2 [some .u16]) →
(∀ b3 : Bool,
(∀ s4 : Sl,
((Ranged s4 [some .u16]) →
((q_kFrac 1 1 (decide (b1 = true)) s2 (decide (b3 = true)) s4) →
(q_Pool x0 2 (decide (b1 = true)) s2 (decide (b3 = true)) s4 0) ∧ True)))))))) ∧
(¬ ((Int.tmod x0 8) = 1) →
((((Int.tmod x0 8) = 2) →
(p_kFrac 1 2) ∧
(∀ b1 : Bool,
(∀ s2 : Sl,
((Ranged s2 [some .u16]) →
(∀ b3 : Bool,
(∀ s4 : Sl,
((Ranged s4 [some .u16]) →
((q_kFrac 1 2 (decide (b1 = true)) s2 (decide (b3 = true)) s4) →
(q_Pool x0 2 (decide (b1 = true)) s2 (decide (b3 = true)) s4 0) ∧ True)))))))) ∧
(¬ ((Int.tmod x0 8) = 2) →
((((Int.tmod x0 8) = 3) →
(p_kFrac (-3) 4) ∧
(∀ b1 : Bool,
(∀ s2 : Sl,
((Ranged s2 [some .u16]) →
(∀ b3 : Bool,
(∀ s4 : Sl,
((Ranged s4 [some .u16]) →
((q_kFrac (-3) 4 (decide (b1 = true)) s2 (decide (b3 = true)) s4) →
(q_Pool x0 2 (decide (b1 = true)) s2 (decide (b3 = true)) s4 0) ∧ True)))))))) ∧
(¬ ((Int.tmod x0 8) = 3) →
((((Int.tmod x0 8) = 4) →
(p_kFrac 5 3) ∧
(∀ b1 : Bool,
(∀ s2 : Sl,
((Ranged s2 [some .u16]) →
(∀ b3 : Bool,
(∀ s4 : Sl,
((Ranged s4 [some .u16]) →
((q_kFrac 5 3 (decide (b1 = true)) s2 (decide (b3 = true)) s4) →
(q_Pool x0 2 (decide (b1 = true)) s2 (decide (b3 = true)) s4 0) ∧ True)))))))) ∧
(¬ ((Int.tmod x0 8) = 4) →
((((Int.tmod x0 8) = 5) →
(p_kFrac 65537 7) ∧
(∀ b1 : Bool,
(∀ s2 : Sl,
((Ranged s2 [some .u16]) →
(∀ b3 : Bool,
(∀ s4 : Sl,
((Ranged s4 [some .u16]) →
((q_kFrac 65537 7 (decide (b1 = true)) s2 (decide (b3 = true)) s4) →
(q_Pool x0 2 (decide (b1 = true)) s2 (decide (b3 = true)) s4 0) ∧ True)))))))) ∧
(¬ ((Int.tmod x0 8) = 5) →
((((Int.tmod x0 8) = 6) →
(p_kFrac (-1) 1) ∧
(∀ b1 : Bool,
(∀ s2 : Sl,
((Ranged s2 [some .u16]) →
(∀ b3 : Bool,
(∀ s4 : Sl,
((Ranged s4 [some .u16]) →
((q_kFrac (-1) 1 (decide (b1 = true)) s2 (decide (b3 = true)) s4) →
(q_Pool x0 2 (decide (b1 = true)) s2 (decide (b3 = true)) s4 0) ∧ True)))))))) ∧
(¬ ((Int.tmod x0 8) = 6) →
(p_kFrac 1099511627776 1) ∧
(∀ b1 : Bool,
(∀ s2 : Sl,
((Ranged s2 [some .u16]) →
(∀ b3 : Bool,
(∀ s4 : Sl,
((Ranged s4 [some .u16]) →
((q_kFrac 1099511627776 1 (decide (b1 = true)) s2 (decide (b3 = true)) s4) →
(q_Pool x0 2 (decide (b1 = true)) s2 (decide (b3 = true)) s4 0) ∧ True))))))))))))))))))))))))
def V_tRow : Prop :=
(∀ x0 : Int,
((Rng .i64 x0) →
(∀ x1 : Int,
((Rng .i64 x1) →
(∀ x2 : Int,
((Rng .i64 x2) →
(∀ x3 : Int,
((Rng .i64 x3) →
(∀ x4 : Int,
((Rng .i64 x4) →
((p_tRow x0 x1 x2 x3 x4) →
(p_kFrac x3 x4) ∧
(∀ b5 : Bool,
(∀ s6 : Sl,
((Ranged s6 [some .u16]) →
(∀ b7 : Bool,
(∀ s8 : Sl,
((Ranged s8 [some .u16]) →
((q_kFrac x3 x4 (decide (b5 = true)) s6 (decide (b7 = true)) s8) →
(q_tRow x0 x1 x2 x3 x4 x0 x1 x2 (decide (b5 = true)) s6 (decide (b7 = true)) s8) ∧ True))))))))))))))))))
def V_tOf : Prop :=
(∀ x0 : Int,
((Rng .u8 x0) →
(∀ x1 : Int,
((Rng .u8 x1) →
(∀ x2 : Int,
((Rng .u8 x2) →
(∀ x3 : Int,
((Rng .u16 x3) →
(∀ b4 : Bool,
((p_tOf x0 x1 x2 x3 (decide (b4 = true))) →
((16 : Int) ≠ 0) ∧
(Rng .u8 (Int.tmod x0 16)) ∧
(Rng .i64 ((Int.tmod x0 16) - 4)) ∧
(((p_Pool x2) ∧
(∀ x5 : Int,
((Rng .u8 x5) →
(∀ b6 : Bool,
(∀ s7 : Sl,
((Ranged s7 [some .u16]) →
(∀ b8 : Bool,
(∀ s9 : Sl,
((Ranged s9 [some .u16]) →
(∀ x10 : Int,
((Rng .i64 x10) →
((q_Pool x2 x5 (decide (b6 = true)) s7 (decide (b8 = true)) s9 x10) →
(((b4 = true) →
((8 : Int) ≠ 0) ∧
(Rng .u8 (Int.tmod x1 8)) ∧
(Rng .i64 ((Int.tmod x1 8) - 2)) ∧
(q_tOf x0 x1 x2 x3 (decide (b4 = true)) ((Int.tmod x0 16) - 4) ((Int.tmod x1 8) - 2) x3 (decide (b6 = true)) s7 (decide (b8 = true)) s9) ∧ True) ∧
(¬ (b4 = true) →
(q_tOf x0 x1 x2 x3 (decide (b4 = true)) ((Int.tmod x0 16) - 4) 0 x3 (decide (b6 = true)) s7 (decide (b8 = true)) s9) ∧ True)))))))))))))) ∧
((p_Pool x2) ∧
(∀ x5 : Int,
((Rng .u8 x5) →
(∀ b6 : Bool,
(∀ s7 : Sl,
((Ranged s7 [some .u16]) →
(∀ b8 : Bool,
(∀ s9 : Sl,
((Ranged s9 [some .u16]) →
(∀ x10 : Int,
((Rng .i64 x10) →
((q_Pool x2 x5 (decide (b6 = true)) s7 (decide (b8 = true)) s9 x10) →
(((b4 = true) →
((8 : Int) ≠ 0) ∧
(Rng .u8 (Int.tmod x1 8)) ∧
(Rng .i64 ((Int.tmod x1 8) - 2)) ∧
(q_tOf x0 x1 x2 x3 (decide (b4 = true)) ((Int.tmod x0 16) - 4) ((Int.tmod x1 8) - 2) x3 (decide (b6 = true)) s7 (decide (b8 = true)) s9) ∧ True) ∧
(¬ (b4 = true) →
(q_tOf x0 x1 x2 x3 (decide (b4 = true)) ((Int.tmod x0 16) - 4) 0 x3 (decide (b6 = true)) s7 (decide (b8 = true)) s9) ∧ True)))))))))))))))))))))))))
def V_tLess : Prop :=
(∀ x0 : Int,
((Rng .i64 x0) →
(∀ x1 : Int,
((Rng .i64 x1) →
(∀ x2 : Int,
((Rng .i64 x2) →
(∀ b3 : Bool,
(∀ s4 : Sl,
((Ranged s4 [some .u16]) →
(∀ b5 : Bool,
(∀ s6 : Sl,
((Ranged s6 [some .u16]) →
(∀ x7 : Int,
((Rng .i64 x7) →
(∀ x8 : Int,
((Rng .i64 x8) →
(∀ x9 : Int,
((Rng .i64 x9) →
(∀ b10 : Bool,
(∀ s11 : Sl,
((Ranged s11 [some .u16]) →
(∀ b12 : Bool,
(∀ s13 : Sl,
((Ranged s13 [some .u16]) →
((p_tLess x0 x1 x2 (decide (b3 = true)) s4 (decide (b5 = true)) s6 x7 x8 x9 (decide (b10 = true)) s11 (decide (b12 = true)) s13) →
(((x0 < x7) →
(q_tLess x0 x1 x2 (decide (b3 = true)) s4 (decide (b5 = true)) s6 x7 x8 x9 (decide (b10 = true)) s11 (decide (b12 = true)) s13 (decide True)) ∧ True) ∧
(¬ (x0 < x7) →
(((x0 = x7) →
(((x1 < x8) →
(q_tLess x0 x1 x2 (decide (b3 = true)) s4 (decide (b5 = true)) s6 x7 x8 x9 (decide (b10 = true)) s11 (decide (b12 = true)) s13 (decide True)) ∧ True) ∧
(¬ (x1 < x8) →
(((x1 = x8) →
(q_tLess x0 x1 x2 (decide (b3 = true)) s4 (decide (b5 = true)) s6 x7 x8 x9 (decide (b10 = true)) s11 (decide (b12 = true)) s13 (decide (x2 < x9))) ∧ True) ∧
(¬ (x1 = x8) →
(q_tLess x0 x1 x2 (decide (b3 = true)) s4 (decide (b5 = true)) s6 x7 x8 x9 (decide (b10 = true)) s11 (decide (b12 = true)) s13 (decide False)) ∧ True))))) ∧
(¬ (x0 = x7) →
(q_tLess x0 x1 x2 (decide (b3 = true)) s4 (decide (b5 = true)) s6 x7 x8 x9 (decide (b10 = true)) s11 (decide (b12 = true)) s13 (decide False)) ∧ True)))))))))))))))))))))))))))))
def V_Built : Prop :=
(∀ s0 : Sl,
((Ranged s0 [some .u8, some .u8, some .u8, some .u16]) →
(∀ b1 : Bool,
((p_Built s0 (decide (b1 = true))) →
(∃ (J2 : Int → ByteArray → Bool → Sl → Prop) (M2 : Int → ByteArray → Bool → Sl → Nat), J2 0 (bytes [98, 117, 105, 108, 116]) (decide (b1 = true)) Sl.nil ∧
(∀ x3 : Int,
((Rng .i64 x3) →
(∀ y4 : ByteArray,
(∀ b5 : Bool,
(∀ s6 : Sl,
((Ranged s6 [some .i64, some .i64, some .i64, none, none, none, none]) →
(J2 x3 y4 (decide (b5 = true)) s6 →
((Small s0) →
(((x3 < (Sl.len s0)) →
(((x3 < 50) →
(∃ J7 : ByteArray → Bool → Sl → Prop,
((((0 : Int) ≤ x3) ∧
(x3 < (Sl.len s0)) ∧
((Rng .u8 (Sl.int s0 x3 0)) →
((Rng .u8 (Sl.int s0 x3 1)) →
((Rng .u8 (Sl.int s0 x3 2)) →
((Rng .u16 (Sl.int s0 x3 3)) →
(((p_tOf (Sl.int s0 x3 0) (Sl.int s0 x3 1) (Sl.int s0 x3 2) (Sl.int s0 x3 3) (decide (b1 = true))) ∧
(∀ x8 : Int,
((Rng .i64 x8) →
(∀ x9 : Int,
((Rng .i64 x9) →
(∀ x10 : Int,
((Rng .i64 x10) →
(∀ b11 : Bool,
(∀ s12 : Sl,
((Ranged s12 [some .u16]) →
(∀ b13 : Bool,
(∀ s14 : Sl,
((Ranged s14 [some .u16]) →
((q_tOf (Sl.int s0 x3 0) (Sl.int s0 x3 1) (Sl.int s0 x3 2) (Sl.int s0 x3 3) (decide (b1 = true)) x8 x9 x10 (decide (b11 = true)) s12 (decide (b13 = true)) s14) →
((((Sl.len s6) + (Sl.len (Sl.lit [[(.int x8), (.int x9), (.int x10), (.bool (decide (b11 = true))), (Sl.d s12), (.bool (decide (b13 = true))), (Sl.d s14)]]))) * 88) ≤ 140737488355328) ∧ J7 y4 (decide (b5 = true)) (Sl.app s6 (Sl.lit [[(.int x8), (.int x9), (.int x10), (.bool (decide (b11 = true))), (Sl.d s12), (.bool (decide (b13 = true))), (Sl.d s14)]])))))))))))))))) ∧
((p_tOf (Sl.int s0 x3 0) (Sl.int s0 x3 1) (Sl.int s0 x3 2) (Sl.int s0 x3 3) (decide (b1 = true))) ∧
(∀ x8 : Int,
((Rng .i64 x8) →
(∀ x9 : Int,
((Rng .i64 x9) →
(∀ x10 : Int,
((Rng .i64 x10) →
(∀ b11 : Bool,
(∀ s12 : Sl,
((Ranged s12 [some .u16]) →
(∀ b13 : Bool,
(∀ s14 : Sl,
((Ranged s14 [some .u16]) →
((q_tOf (Sl.int s0 x3 0) (Sl.int s0 x3 1) (Sl.int s0 x3 2) (Sl.int s0 x3 3) (decide (b1 = true)) x8 x9 x10 (decide (b11 = true)) s12 (decide (b13 = true)) s14) →
((((((Sl.len s6) + (Sl.len (Sl.lit [[(.int x8), (.int x9), (.int x10), (.bool (decide (b11 = true))), (Sl.d s12), (.bool (decide (b13 = true))), (Sl.d s14)]]))) * 88) ≤ 140737488355328) ∧ J7 y4 (decide (b5 = true)) (Sl.app s6 (Sl.lit [[(.int x8), (.int x9), (.int x10), (.bool (decide (b11 = true))), (Sl.d s12), (.bool (decide (b13 = true))), (Sl.d s14)]]))) ∧
(((((Sl.len s6) + (Sl.len (Sl.lit [[(.int x8), (.int x9), (.int x10), (.bool (decide (b11 = true))), (Sl.d s12), (.bool (decide (b13 = true))), (Sl.d s14)]]))) * 88) ≤ 140737488355328) ∧ J7 y4 (decide (b5 = true)) (Sl.app s6 (Sl.lit [[(.int x8), (.int x9), (.int x10), (.bool (decide (b11 = true))), (Sl.d s12), (.bool (decide (b13 = true))), (Sl.d s14)]])))))))))))))))))))))))) ∧
((∀ y8 : ByteArray,
(∀ b9 : Bool,
(∀ s10 : Sl,
((Ranged s10 [some .i64, some .i64, some .i64, none, none, none, none]) →
(J7 y8 (decide (b9 = true)) s10 →
((Small s10) →
(Rng .i64 ((Sl.len s10) - 1)) ∧
(∃ (J11 : Int → ByteArray → Bool → Sl → Prop) (M11 : Int → ByteArray → Bool → Sl → Nat), J11 ((Sl.len s10) - 1) y8 (decide (b9 = true)) s10 ∧
(∀ x12 : Int,
((Rng .i64 x12) →
(∀ y13 : ByteArray,
(∀ b14 : Bool,
(∀ s15 : Sl,
((Ranged s15 [some .i64, some .i64, some .i64, none, none, none, none]) →
(J11 x12 y13 (decide (b14 = true)) s15 →
(∃ J16 : Prop,
(((((x12 > 0) →
(Rng .i64 (x12 - 1)) ∧
((((0 : Int) ≤ x12) ∧
(x12 < (Sl.len s15)) ∧
((((Rng .i64 (Sl.int s15 x12 0)) →
((Rng .i64 (Sl.int s15 x12 1)) →
((Rng .i64 (Sl.int s15 x12 2)) →
((Ranged (Sl.sub s15 x12 4) [some .u16]) →
((Ranged (Sl.sub s15 x12 6) [some .u16]) →
((0 : Int) ≤ (x12 - 1)) ∧
((x12 - 1) < (Sl.len s15)) ∧
((Rng .i64 (Sl.int s15 (x12 - 1) 0)) →
((Rng .i64 (Sl.int s15 (x12 - 1) 1)) →
((Rng .i64 (Sl.int s15 (x12 - 1) 2)) →
((Ranged (Sl.sub s15 (x12 - 1) 4) [some .u16]) →
((Ranged (Sl.sub s15 (x12 - 1) 6) [some .u16]) →
(p_tLess (Sl.int s15 x12 0) (Sl.int s15 x12 1) (Sl.int s15 x12 2) (decide (Sl.bool s15 x12 3 = true)) (Sl.sub s15 x12 4) (decide (Sl.bool s15 x12 5 = true)) (Sl.sub s15 x12 6) (Sl.int s15 (x12 - 1) 0) (Sl.int s15 (x12 - 1) 1) (Sl.int s15 (x12 - 1) 2) (decide (Sl.bool s15 (x12 - 1) 3 = true)) (Sl.sub s15 (x12 - 1) 4) (decide (Sl.bool s15 (x12 - 1) 5 = true)) (Sl.sub s15 (x12 - 1) 6)) ∧
(∀ b17 : Bool,
((q_tLess (Sl.int s15 x12 0) (Sl.int s15 x12 1) (Sl.int s15 x12 2) (decide (Sl.bool s15 x12 3 = true)) (Sl.sub s15 x12 4) (decide (Sl.bool s15 x12 5 = true)) (Sl.sub s15 x12 6) (Sl.int s15 (x12 - 1) 0) (Sl.int s15 (x12 - 1) 1) (Sl.int s15 (x12 - 1) 2) (decide (Sl.bool s15 (x12 - 1) 3 = true)) (Sl.sub s15 (x12 - 1) 4) (decide (Sl.bool s15 (x12 - 1) 5 = true)) (Sl.sub s15 (x12 - 1) 6) (decide (b17 = true))) →
(((b17 = true) → J16 ) ∧
(¬ (b17 = true) →
(Rng .i64 (x3 + 1)) ∧
(J2 (x3 + 1) y13 (decide (b14 = true)) s15 ∧ M2 (x3 + 1) y13 (decide (b14 = true)) s15 < M2 x3 y4 (decide (b5 = true)) s6)))))))))))))))) ∧
(((0 : Int) ≤ (x12 - 1)) ∧
((x12 - 1) < (Sl.len s15)) ∧
((((Rng .i64 (Sl.int s15 x12 0)) →
((Rng .i64 (Sl.int s15 x12 1)) →
((Rng .i64 (Sl.int s15 x12 2)) →
((Ranged (Sl.sub s15 x12 4) [some .u16]) →
((Ranged (Sl.sub s15 x12 6) [some .u16]) →
((Rng .i64 (Sl.int s15 (x12 - 1) 0)) →
((Rng .i64 (Sl.int s15 (x12 - 1) 1)) →
((Rng .i64 (Sl.int s15 (x12 - 1) 2)) →
((Ranged (Sl.sub s15 (x12 - 1) 4) [some .u16]) →
((Ranged (Sl.sub s15 (x12 - 1) 6) [some .u16]) →
(p_tLess (Sl.int s15 x12 0) (Sl.int s15 x12 1) (Sl.int s15 x12 2) (decide (Sl.bool s15 x12 3 = true)) (Sl.sub s15 x12 4) (decide (Sl.bool s15 x12 5 = true)) (Sl.sub s15 x12 6) (Sl.int s15 (x12 - 1) 0) (Sl.int s15 (x12 - 1) 1) (Sl.int s15 (x12 - 1) 2) (decide (Sl.bool s15 (x12 - 1) 3 = true)) (Sl.sub s15 (x12 - 1) 4) (decide (Sl.bool s15 (x12 - 1) 5 = true)) (Sl.sub s15 (x12 - 1) 6)) ∧
(∀ b17 : Bool,
((q_tLess (Sl.int s15 x12 0) (Sl.int s15 x12 1) (Sl.int s15 x12 2) (decide (Sl.bool s15 x12 3 = true)) (Sl.sub s15 x12 4) (decide (Sl.bool s15 x12 5 = true)) (Sl.sub s15 x12 6) (Sl.int s15 (x12 - 1) 0) (Sl.int s15 (x12 - 1) 1) (Sl.int s15 (x12 - 1) 2) (decide (Sl.bool s15 (x12 - 1) 3 = true)) (Sl.sub s15 (x12 - 1) 4) (decide (Sl.bool s15 (x12 - 1) 5 = true)) (Sl.sub s15 (x12 - 1) 6) (decide (b17 = true))) →
(((b17 = true) → J16 ) ∧
(¬ (b17 = true) →
(Rng .i64 (x3 + 1)) ∧
(J2 (x3 + 1) y13 (decide (b14 = true)) s15 ∧ M2 (x3 + 1) y13 (decide (b14 = true)) s15 < M2 x3 y4 (decide (b5 = true)) s6)))))))))))))))) ∧
(((Rng .i64 (Sl.int s15 (x12 - 1) 0)) →
((Rng .i64 (Sl.int s15 (x12 - 1) 1)) →
((Rng .i64 (Sl.int s15 (x12 - 1) 2)) →
((Ranged (Sl.sub s15 (x12 - 1) 4) [some .u16]) →
((Ranged (Sl.sub s15 (x12 - 1) 6) [some .u16]) →
((Rng .i64 (Sl.int s15 x12 0)) →
((Rng .i64 (Sl.int s15 x12 1)) →
((Rng .i64 (Sl.int s15 x12 2)) →
((Ranged (Sl.sub s15 x12 4) [some .u16]) →
((Ranged (Sl.sub s15 x12 6) [some .u16]) →
(p_tLess (Sl.int s15 x12 0) (Sl.int s15 x12 1) (Sl.int s15 x12 2) (decide (Sl.bool s15 x12 3 = true)) (Sl.sub s15 x12 4) (decide (Sl.bool s15 x12 5 = true)) (Sl.sub s15 x12 6) (Sl.int s15 (x12 - 1) 0) (Sl.int s15 (x12 - 1) 1) (Sl.int s15 (x12 - 1) 2) (decide (Sl.bool s15 (x12 - 1) 3 = true)) (Sl.sub s15 (x12 - 1) 4) (decide (Sl.bool s15 (x12 - 1) 5 = true)) (Sl.sub s15 (x12 - 1) 6)) ∧
(∀ b17 : Bool,
((q_tLess (Sl.int s15 x12 0) (Sl.int s15 x12 1) (Sl.int s15 x12 2) (decide (Sl.bool s15 x12 3 = true)) (Sl.sub s15 x12 4) (decide (Sl.bool s15 x12 5 = true)) (Sl.sub s15 x12 6) (Sl.int s15 (x12 - 1) 0) (Sl.int s15 (x12 - 1) 1) (Sl.int s15 (x12 - 1) 2) (decide (Sl.bool s15 (x12 - 1) 3 = true)) (Sl.sub s15 (x12 - 1) 4) (decide (Sl.bool s15 (x12 - 1) 5 = true)) (Sl.sub s15 (x12 - 1) 6) (decide (b17 = true))) →
(((b17 = true) → J16 ) ∧
(¬ (b17 = true) →
(Rng .i64 (x3 + 1)) ∧
(J2 (x3 + 1) y13 (decide (b14 = true)) s15 ∧ M2 (x3 + 1) y13 (decide (b14 = true)) s15 < M2 x3 y4 (decide (b5 = true)) s6)))))))))))))))))))) ∧
(((0 : Int) ≤ (x12 - 1)) ∧
((x12 - 1) < (Sl.len s15)) ∧
((((0 : Int) ≤ x12) ∧
(x12 < (Sl.len s15)) ∧
((((Rng .i64 (Sl.int s15 x12 0)) →
((Rng .i64 (Sl.int s15 x12 1)) →
((Rng .i64 (Sl.int s15 x12 2)) →
((Ranged (Sl.sub s15 x12 4) [some .u16]) →
((Ranged (Sl.sub s15 x12 6) [some .u16]) →
((Rng .i64 (Sl.int s15 (x12 - 1) 0)) →
((Rng .i64 (Sl.int s15 (x12 - 1) 1)) →
((Rng .i64 (Sl.int s15 (x12 - 1) 2)) →
((Ranged (Sl.sub s15 (x12 - 1) 4) [some .u16]) →
((Ranged (Sl.sub s15 (x12 - 1) 6) [some .u16]) →
(p_tLess (Sl.int s15 x12 0) (Sl.int s15 x12 1) (Sl.int s15 x12 2) (decide (Sl.bool s15 x12 3 = true)) (Sl.sub s15 x12 4) (decide (Sl.bool s15 x12 5 = true)) (Sl.sub s15 x12 6) (Sl.int s15 (x12 - 1) 0) (Sl.int s15 (x12 - 1) 1) (Sl.int s15 (x12 - 1) 2) (decide (Sl.bool s15 (x12 - 1) 3 = true)) (Sl.sub s15 (x12 - 1) 4) (decide (Sl.bool s15 (x12 - 1) 5 = true)) (Sl.sub s15 (x12 - 1) 6)) ∧
(∀ b17 : Bool,
((q_tLess (Sl.int s15 x12 0) (Sl.int s15 x12 1) (Sl.int s15 x12 2) (decide (Sl.bool s15 x12 3 = true)) (Sl.sub s15 x12 4) (decide (Sl.bool s15 x12 5 = true)) (Sl.sub s15 x12 6) (Sl.int s15 (x12 - 1) 0) (Sl.int s15 (x12 - 1) 1) (Sl.int s15 (x12 - 1) 2) (decide (Sl.bool s15 (x12 - 1) 3 = true)) (Sl.sub s15 (x12 - 1) 4) (decide (Sl.bool s15 (x12 - 1) 5 = true)) (Sl.sub s15 (x12 - 1) 6) (decide (b17 = true))) →
(((b17 = true) → J16 ) ∧
(¬ (b17 = true) →
(Rng .i64 (x3 + 1)) ∧
(J2 (x3 + 1) y13 (decide (b14 = true)) s15 ∧ M2 (x3 + 1) y13 (decide (b14 = true)) s15 < M2 x3 y4 (decide (b5 = true)) s6)))))))))))))))) ∧
(((Rng .i64 (Sl.int s15 (x12 - 1) 0)) →
((Rng .i64 (Sl.int s15 (x12 - 1) 1)) →
((Rng .i64 (Sl.int s15 (x12 - 1) 2)) →
((Ranged (Sl.sub s15 (x12 - 1) 4) [some .u16]) →
((Ranged (Sl.sub s15 (x12 - 1) 6) [some .u16]) →
((Rng .i64 (Sl.int s15 x12 0)) →
((Rng .i64 (Sl.int s15 x12 1)) →
((Rng .i64 (Sl.int s15 x12 2)) →
((Ranged (Sl.sub s15 x12 4) [some .u16]) →
((Ranged (Sl.sub s15 x12 6) [some .u16]) →
(p_tLess (Sl.int s15 x12 0) (Sl.int s15 x12 1) (Sl.int s15 x12 2) (decide (Sl.bool s15 x12 3 = true)) (Sl.sub s15 x12 4) (decide (Sl.bool s15 x12 5 = true)) (Sl.sub s15 x12 6) (Sl.int s15 (x12 - 1) 0) (Sl.int s15 (x12 - 1) 1) (Sl.int s15 (x12 - 1) 2) (decide (Sl.bool s15 (x12 - 1) 3 = true)) (Sl.sub s15 (x12 - 1) 4) (decide (Sl.bool s15 (x12 - 1) 5 = true)) (Sl.sub s15 (x12 - 1) 6)) ∧
(∀ b17 : Bool,
((q_tLess (Sl.int s15 x12 0) (Sl.int s15 x12 1) (Sl.int s15 x12 2) (decide (Sl.bool s15 x12 3 = true)) (Sl.sub s15 x12 4) (decide (Sl.bool s15 x12 5 = true)) (Sl.sub s15 x12 6) (Sl.int s15 (x12 - 1) 0) (Sl.int s15 (x12 - 1) 1) (Sl.int s15 (x12 - 1) 2) (decide (Sl.bool s15 (x12 - 1) 3 = true)) (Sl.sub s15 (x12 - 1) 4) (decide (Sl.bool s15 (x12 - 1) 5 = true)) (Sl.sub s15 (x12 - 1) 6) (decide (b17 = true))) →
(((b17 = true) → J16 ) ∧
(¬ (b17 = true) →
(Rng .i64 (x3 + 1)) ∧
(J2 (x3 + 1) y13 (decide (b14 = true)) s15 ∧ M2 (x3 + 1) y13 (decide (b14 = true)) s15 < M2 x3 y4 (decide (b5 = true)) s6)))))))))))))))))) ∧
(((Rng .i64 (Sl.int s15 (x12 - 1) 0)) →
((Rng .i64 (Sl.int s15 (x12 - 1) 1)) →
((Rng .i64 (Sl.int s15 (x12 - 1) 2)) →
((Ranged (Sl.sub s15 (x12 - 1) 4) [some .u16]) →
((Ranged (Sl.sub s15 (x12 - 1) 6) [some .u16]) →
((0 : Int) ≤ x12) ∧
(x12 < (Sl.len s15)) ∧
((Rng .i64 (Sl.int s15 x12 0)) →
((Rng .i64 (Sl.int s15 x12 1)) →
((Rng .i64 (Sl.int s15 x12 2)) →
((Ranged (Sl.sub s15 x12 4) [some .u16]) →
((Ranged (Sl.sub s15 x12 6) [some .u16]) →
(p_tLess (Sl.int s15 x12 0) (Sl.int s15 x12 1) (Sl.int s15 x12 2) (decide (Sl.bool s15 x12 3 = true)) (Sl.sub s15 x12 4) (decide (Sl.bool s15 x12 5 = true)) (Sl.sub s15 x12 6) (Sl.int s15 (x12 - 1) 0) (Sl.int s15 (x12 - 1) 1) (Sl.int s15 (x12 - 1) 2) (decide (Sl.bool s15 (x12 - 1) 3 = true)) (Sl.sub s15 (x12 - 1) 4) (decide (Sl.bool s15 (x12 - 1) 5 = true)) (Sl.sub s15 (x12 - 1) 6)) ∧
(∀ b17 : Bool,
((q_tLess (Sl.int s15 x12 0) (Sl.int s15 x12 1) (Sl.int s15 x12 2) (decide (Sl.bool s15 x12 3 = true)) (Sl.sub s15 x12 4) (decide (Sl.bool s15 x12 5 = true)) (Sl.sub s15 x12 6) (Sl.int s15 (x12 - 1) 0) (Sl.int s15 (x12 - 1) 1) (Sl.int s15 (x12 - 1) 2) (decide (Sl.bool s15 (x12 - 1) 3 = true)) (Sl.sub s15 (x12 - 1) 4) (decide (Sl.bool s15 (x12 - 1) 5 = true)) (Sl.sub s15 (x12 - 1) 6) (decide (b17 = true))) →
(((b17 = true) → J16 ) ∧
(¬ (b17 = true) →
(Rng .i64 (x3 + 1)) ∧
(J2 (x3 + 1) y13 (decide (b14 = true)) s15 ∧ M2 (x3 + 1) y13 (decide (b14 = true)) s15 < M2 x3 y4 (decide (b5 = true)) s6)))))))))))))))))))) ∧
(¬ (x12 > 0) →
(Rng .i64 (x3 + 1)) ∧
(J2 (x3 + 1) y13 (decide (b14 = true)) s15 ∧ M2 (x3 + 1) y13 (decide (b14 = true)) s15 < M2 x3 y4 (decide (b5 = true)) s6)))) ∧
((J16  →
(∃ J17 : ByteArray → Bool → Sl → Prop,
(((Rng .i64 (x12 - 1)) ∧
(Rng .i64 (x12 - 1)) ∧
((((0 : Int) ≤ (x12 - 1)) ∧
((x12 - 1) < (Sl.len s15)) ∧
((((Rng .i64 (Sl.int s15 (x12 - 1) 0)) →
((Rng .i64 (Sl.int s15 (x12 - 1) 1)) →
((Rng .i64 (Sl.int s15 (x12 - 1) 2)) →
((Ranged (Sl.sub s15 (x12 - 1) 4) [some .u16]) →
((Ranged (Sl.sub s15 (x12 - 1) 6) [some .u16]) →
((0 : Int) ≤ x12) ∧
(x12 < (Sl.len s15)) ∧
((Rng .i64 (Sl.int s15 x12 0)) →
((Rng .i64 (Sl.int s15 x12 1)) →
((Rng .i64 (Sl.int s15 x12 2)) →
((Ranged (Sl.sub s15 x12 4) [some .u16]) →
((Ranged (Sl.sub s15 x12 6) [some .u16]) →
((0 : Int) ≤ x12) ∧
(x12 < (Sl.len s15)) ∧
((0 : Int) ≤ (x12 - 1)) ∧
((x12 - 1) < (Sl.len (Sl.upd s15 x12 0 [(.int (Sl.int s15 (x12 - 1) 0)), (.int (Sl.int s15 (x12 - 1) 1)), (.int (Sl.int s15 (x12 - 1) 2)), (.bool (decide (Sl.bool s15 (x12 - 1) 3 = true))), (Sl.d (Sl.sub s15 (x12 - 1) 4)), (.bool (decide (Sl.bool s15 (x12 - 1) 5 = true))), (Sl.d (Sl.sub s15 (x12 - 1) 6))]))) ∧ J17 y13 (decide (b14 = true)) (Sl.upd (Sl.upd s15 x12 0 [(.int (Sl.int s15 (x12 - 1) 0)), (.int (Sl.int s15 (x12 - 1) 1)), (.int (Sl.int s15 (x12 - 1) 2)), (.bool (decide (Sl.bool s15 (x12 - 1) 3 = true))), (Sl.d (Sl.sub s15 (x12 - 1) 4)), (.bool (decide (Sl.bool s15 (x12 - 1) 5 = true))), (Sl.d (Sl.sub s15 (x12 - 1) 6))]) (x12 - 1) 0 [(.int (Sl.int s15 x12 0)), (.int (Sl.int s15 x12 1)), (.int (Sl.int s15 x12 2)), (.bool (decide (Sl.bool s15 x12 3 = true))), (Sl.d (Sl.sub s15 x12 4)), (.bool (decide (Sl.bool s15 x12 5 = true))), (Sl.d (Sl.sub s15 x12 6))])))))))))))) ∧
(((0 : Int) ≤ x12) ∧
(x12 < (Sl.len s15)) ∧
((((Rng .i64 (Sl.int s15 (x12 - 1) 0)) →
((Rng .i64 (Sl.int s15 (x12 - 1) 1)) →
((Rng .i64 (Sl.int s15 (x12 - 1) 2)) →
((Ranged (Sl.sub s15 (x12 - 1) 4) [some .u16]) →
((Ranged (Sl.sub s15 (x12 - 1) 6) [some .u16]) →
((Rng .i64 (Sl.int s15 x12 0)) →
((Rng .i64 (Sl.int s15 x12 1)) →
((Rng .i64 (Sl.int s15 x12 2)) →
((Ranged (Sl.sub s15 x12 4) [some .u16]) →
((Ranged (Sl.sub s15 x12 6) [some .u16]) →
((0 : Int) ≤ x12) ∧
(x12 < (Sl.len s15)) ∧
((0 : Int) ≤ (x12 - 1)) ∧
((x12 - 1) < (Sl.len (Sl.upd s15 x12 0 [(.int (Sl.int s15 (x12 - 1) 0)), (.int (Sl.int s15 (x12 - 1) 1)), (.int (Sl.int s15 (x12 - 1) 2)), (.bool (decide (Sl.bool s15 (x12 - 1) 3 = true))), (Sl.d (Sl.sub s15 (x12 - 1) 4)), (.bool (decide (Sl.bool s15 (x12 - 1) 5 = true))), (Sl.d (Sl.sub s15 (x12 - 1) 6))]))) ∧ J17 y13 (decide (b14 = true)) (Sl.upd (Sl.upd s15 x12 0 [(.int (Sl.int s15 (x12 - 1) 0)), (.int (Sl.int s15 (x12 - 1) 1)), (.int (Sl.int s15 (x12 - 1) 2)), (.bool (decide (Sl.bool s15 (x12 - 1) 3 = true))), (Sl.d (Sl.sub s15 (x12 - 1) 4)), (.bool (decide (Sl.bool s15 (x12 - 1) 5 = true))), (Sl.d (Sl.sub s15 (x12 - 1) 6))]) (x12 - 1) 0 [(.int (Sl.int s15 x12 0)), (.int (Sl.int s15 x12 1)), (.int (Sl.int s15 x12 2)), (.bool (decide (Sl.bool s15 x12 3 = true))), (Sl.d (Sl.sub s15 x12 4)), (.bool (decide (Sl.bool s15 x12 5 = true))), (Sl.d (Sl.sub s15 x12 6))])))))))))))) ∧
(((Rng .i64 (Sl.int s15 x12 0)) →
((Rng .i64 (Sl.int s15 x12 1)) →
((Rng .i64 (Sl.int s15 x12 2)) →
((Ranged (Sl.sub s15 x12 4) [some .u16]) →
((Ranged (Sl.sub s15 x12 6) [some .u16]) →
((Rng .i64 (Sl.int s15 (x12 - 1) 0)) →
((Rng .i64 (Sl.int s15 (x12 - 1) 1)) →
((Rng .i64 (Sl.int s15 (x12 - 1) 2)) →
((Ranged (Sl.sub s15 (x12 - 1) 4) [some .u16]) →
((Ranged (Sl.sub s15 (x12 - 1) 6) [some .u16]) →
((0 : Int) ≤ x12) ∧
(x12 < (Sl.len s15)) ∧
((0 : Int) ≤ (x12 - 1)) ∧
((x12 - 1) < (Sl.len (Sl.upd s15 x12 0 [(.int (Sl.int s15 (x12 - 1) 0)), (.int (Sl.int s15 (x12 - 1) 1)), (.int (Sl.int s15 (x12 - 1) 2)), (.bool (decide (Sl.bool s15 (x12 - 1) 3 = true))), (Sl.d (Sl.sub s15 (x12 - 1) 4)), (.bool (decide (Sl.bool s15 (x12 - 1) 5 = true))), (Sl.d (Sl.sub s15 (x12 - 1) 6))]))) ∧ J17 y13 (decide (b14 = true)) (Sl.upd (Sl.upd s15 x12 0 [(.int (Sl.int s15 (x12 - 1) 0)), (.int (Sl.int s15 (x12 - 1) 1)), (.int (Sl.int s15 (x12 - 1) 2)), (.bool (decide (Sl.bool s15 (x12 - 1) 3 = true))), (Sl.d (Sl.sub s15 (x12 - 1) 4)), (.bool (decide (Sl.bool s15 (x12 - 1) 5 = true))), (Sl.d (Sl.sub s15 (x12 - 1) 6))]) (x12 - 1) 0 [(.int (Sl.int s15 x12 0)), (.int (Sl.int s15 x12 1)), (.int (Sl.int s15 x12 2)), (.bool (decide (Sl.bool s15 x12 3 = true))), (Sl.d (Sl.sub s15 x12 4)), (.bool (decide (Sl.bool s15 x12 5 = true))), (Sl.d (Sl.sub s15 x12 6))])))))))))))))))) ∧
(((0 : Int) ≤ x12) ∧
(x12 < (Sl.len s15)) ∧
((((0 : Int) ≤ (x12 - 1)) ∧
((x12 - 1) < (Sl.len s15)) ∧
((((Rng .i64 (Sl.int s15 (x12 - 1) 0)) →
((Rng .i64 (Sl.int s15 (x12 - 1) 1)) →
((Rng .i64 (Sl.int s15 (x12 - 1) 2)) →
((Ranged (Sl.sub s15 (x12 - 1) 4) [some .u16]) →
((Ranged (Sl.sub s15 (x12 - 1) 6) [some .u16]) →
((Rng .i64 (Sl.int s15 x12 0)) →
((Rng .i64 (Sl.int s15 x12 1)) →
((Rng .i64 (Sl.int s15 x12 2)) →
((Ranged (Sl.sub s15 x12 4) [some .u16]) →
((Ranged (Sl.sub s15 x12 6) [some .u16]) →
((0 : Int) ≤ x12) ∧
(x12 < (Sl.len s15)) ∧
((0 : Int) ≤ (x12 - 1)) ∧
((x12 - 1) < (Sl.len (Sl.upd s15 x12 0 [(.int (Sl.int s15 (x12 - 1) 0)), (.int (Sl.int s15 (x12 - 1) 1)), (.int (Sl.int s15 (x12 - 1) 2)), (.bool (decide (Sl.bool s15 (x12 - 1) 3 = true))), (Sl.d (Sl.sub s15 (x12 - 1) 4)), (.bool (decide (Sl.bool s15 (x12 - 1) 5 = true))), (Sl.d (Sl.sub s15 (x12 - 1) 6))]))) ∧ J17 y13 (decide (b14 = true)) (Sl.upd (Sl.upd s15 x12 0 [(.int (Sl.int s15 (x12 - 1) 0)), (.int (Sl.int s15 (x12 - 1) 1)), (.int (Sl.int s15 (x12 - 1) 2)), (.bool (decide (Sl.bool s15 (x12 - 1) 3 = true))), (Sl.d (Sl.sub s15 (x12 - 1) 4)), (.bool (decide (Sl.bool s15 (x12 - 1) 5 = true))), (Sl.d (Sl.sub s15 (x12 - 1) 6))]) (x12 - 1) 0 [(.int (Sl.int s15 x12 0)), (.int (Sl.int s15 x12 1)), (.int (Sl.int s15 x12 2)), (.bool (decide (Sl.bool s15 x12 3 = true))), (Sl.d (Sl.sub s15 x12 4)), (.bool (decide (Sl.bool s15 x12 5 = true))), (Sl.d (Sl.sub s15 x12 6))])))))))))))) ∧
(((Rng .i64 (Sl.int s15 x12 0)) →
((Rng .i64 (Sl.int s15 x12 1)) →
((Rng .i64 (Sl.int s15 x12 2)) →
((Ranged (Sl.sub s15 x12 4) [some .u16]) →
((Ranged (Sl.sub s15 x12 6) [some .u16]) →
((Rng .i64 (Sl.int s15 (x12 - 1) 0)) →
((Rng .i64 (Sl.int s15 (x12 - 1) 1)) →
((Rng .i64 (Sl.int s15 (x12 - 1) 2)) →
((Ranged (Sl.sub s15 (x12 - 1) 4) [some .u16]) →
((Ranged (Sl.sub s15 (x12 - 1) 6) [some .u16]) →
((0 : Int) ≤ x12) ∧
(x12 < (Sl.len s15)) ∧
((0 : Int) ≤ (x12 - 1)) ∧
((x12 - 1) < (Sl.len (Sl.upd s15 x12 0 [(.int (Sl.int s15 (x12 - 1) 0)), (.int (Sl.int s15 (x12 - 1) 1)), (.int (Sl.int s15 (x12 - 1) 2)), (.bool (decide (Sl.bool s15 (x12 - 1) 3 = true))), (Sl.d (Sl.sub s15 (x12 - 1) 4)), (.bool (decide (Sl.bool s15 (x12 - 1) 5 = true))), (Sl.d (Sl.sub s15 (x12 - 1) 6))]))) ∧ J17 y13 (decide (b14 = true)) (Sl.upd (Sl.upd s15 x12 0 [(.int (Sl.int s15 (x12 - 1) 0)), (.int (Sl.int s15 (x12 - 1) 1)), (.int (Sl.int s15 (x12 - 1) 2)), (.bool (decide (Sl.bool s15 (x12 - 1) 3 = true))), (Sl.d (Sl.sub s15 (x12 - 1) 4)), (.bool (decide (Sl.bool s15 (x12 - 1) 5 = true))), (Sl.d (Sl.sub s15 (x12 - 1) 6))]) (x12 - 1) 0 [(.int (Sl.int s15 x12 0)), (.int (Sl.int s15 x12 1)), (.int (Sl.int s15 x12 2)), (.bool (decide (Sl.bool s15 x12 3 = true))), (Sl.d (Sl.sub s15 x12 4)), (.bool (decide (Sl.bool s15 x12 5 = true))), (Sl.d (Sl.sub s15 x12 6))])))))))))))))) ∧
(((Rng .i64 (Sl.int s15 x12 0)) →
((Rng .i64 (Sl.int s15 x12 1)) →
((Rng .i64 (Sl.int s15 x12 2)) →
((Ranged (Sl.sub s15 x12 4) [some .u16]) →
((Ranged (Sl.sub s15 x12 6) [some .u16]) →
((0 : Int) ≤ (x12 - 1)) ∧
((x12 - 1) < (Sl.len s15)) ∧
((Rng .i64 (Sl.int s15 (x12 - 1) 0)) →
((Rng .i64 (Sl.int s15 (x12 - 1) 1)) →
((Rng .i64 (Sl.int s15 (x12 - 1) 2)) →
((Ranged (Sl.sub s15 (x12 - 1) 4) [some .u16]) →
((Ranged (Sl.sub s15 (x12 - 1) 6) [some .u16]) →
((0 : Int) ≤ x12) ∧
(x12 < (Sl.len s15)) ∧
((0 : Int) ≤ (x12 - 1)) ∧
((x12 - 1) < (Sl.len (Sl.upd s15 x12 0 [(.int (Sl.int s15 (x12 - 1) 0)), (.int (Sl.int s15 (x12 - 1) 1)), (.int (Sl.int s15 (x12 - 1) 2)), (.bool (decide (Sl.bool s15 (x12 - 1) 3 = true))), (Sl.d (Sl.sub s15 (x12 - 1) 4)), (.bool (decide (Sl.bool s15 (x12 - 1) 5 = true))), (Sl.d (Sl.sub s15 (x12 - 1) 6))]))) ∧ J17 y13 (decide (b14 = true)) (Sl.upd (Sl.upd s15 x12 0 [(.int (Sl.int s15 (x12 - 1) 0)), (.int (Sl.int s15 (x12 - 1) 1)), (.int (Sl.int s15 (x12 - 1) 2)), (.bool (decide (Sl.bool s15 (x12 - 1) 3 = true))), (Sl.d (Sl.sub s15 (x12 - 1) 4)), (.bool (decide (Sl.bool s15 (x12 - 1) 5 = true))), (Sl.d (Sl.sub s15 (x12 - 1) 6))]) (x12 - 1) 0 [(.int (Sl.int s15 x12 0)), (.int (Sl.int s15 x12 1)), (.int (Sl.int s15 x12 2)), (.bool (decide (Sl.bool s15 x12 3 = true))), (Sl.d (Sl.sub s15 x12 4)), (.bool (decide (Sl.bool s15 x12 5 = true))), (Sl.d (Sl.sub s15 x12 6))])))))))))))))))) ∧
((∀ y18 : ByteArray,
(∀ b19 : Bool,
(∀ s20 : Sl,
((Ranged s20 [some .i64, some .i64, some .i64, none, none, none, none]) →
(J17 y18 (decide (b19 = true)) s20 →
(Rng .i64 (x12 - 1)) ∧
(J11 (x12 - 1) y18 (decide (b19 = true)) s20 ∧ M11 (x12 - 1) y18 (decide (b19 = true)) s20 < M11 x12 y13 (decide (b14 = true)) s15))))))))))))))))))))))))))))))) ∧
(¬ (x3 < 50) →
(q_Built s0 (decide (b1 = true)) y4 (decide (b5 = true)) s6) ∧ True))) ∧
(¬ (x3 < (Sl.len s0)) →
(q_Built s0 (decide (b1 = true)) y4 (decide (b5 = true)) s6) ∧ True)))))))))))))))
def V_holds : Prop :=
(∀ y0 : ByteArray,
(∀ b1 : Bool,
(∀ s2 : Sl,
((Ranged s2 [some .i64, some .i64, some .i64, none, none, none, none]) →
(∀ x3 : Int,
((Rng .i64 x3) →
(∀ x4 : Int,
((Rng .i64 x4) →
(∀ x5 : Int,
((Rng .i64 x5) →
((p_holds y0 (decide (b1 = true)) s2 x3 x4 x5) →
((Small s2) →
(∃ (J6 : Int → Int → Prop) (M6 : Int → Int → Nat), J6 (-1) 0 ∧
(∀ x7 : Int,
((Rng .i64 x7) →
(∀ x8 : Int,
((Rng .i64 x8) →
(J6 x7 x8 →
(((x8 < (Sl.len s2)) →
((0 : Int) ≤ x8) ∧
(x8 < (Sl.len s2)) ∧
((Rng .i64 (Sl.int s2 x8 0)) →
((Rng .i64 (Sl.int s2 x8 1)) →
((Rng .i64 (Sl.int s2 x8 2)) →
((Ranged (Sl.sub s2 x8 4) [some .u16]) →
((Ranged (Sl.sub s2 x8 6) [some .u16]) →
((((Sl.int s2 x8 0) = x3) →
((((Sl.int s2 x8 1) = x4) →
((((Sl.int s2 x8 2) ≤ x5) →
(Rng .i64 (x8 + 1)) ∧
(J6 x8 (x8 + 1) ∧ M6 x8 (x8 + 1) < M6 x7 x8)) ∧
(¬ ((Sl.int s2 x8 2) ≤ x5) →
(Rng .i64 (x8 + 1)) ∧
(J6 x7 (x8 + 1) ∧ M6 x7 (x8 + 1) < M6 x7 x8)))) ∧
(¬ ((Sl.int s2 x8 1) = x4) →
(Rng .i64 (x8 + 1)) ∧
(J6 x7 (x8 + 1) ∧ M6 x7 (x8 + 1) < M6 x7 x8)))) ∧
(¬ ((Sl.int s2 x8 0) = x3) →
(Rng .i64 (x8 + 1)) ∧
(J6 x7 (x8 + 1) ∧ M6 x7 (x8 + 1) < M6 x7 x8))))))))) ∧
(¬ (x8 < (Sl.len s2)) →
(q_holds y0 (decide (b1 = true)) s2 x3 x4 x5 x7) ∧ True))))))))))))))))))))
def V_awake : Prop :=
((p_awake ) →
(p_tRow 0 0 0 1 10) ∧
(∀ x0 : Int,
((Rng .i64 x0) →
(∀ x1 : Int,
((Rng .i64 x1) →
(∀ x2 : Int,
((Rng .i64 x2) →
(∀ b3 : Bool,
(∀ s4 : Sl,
((Ranged s4 [some .u16]) →
(∀ b5 : Bool,
(∀ s6 : Sl,
((Ranged s6 [some .u16]) →
((q_tRow 0 0 0 1 10 x0 x1 x2 (decide (b3 = true)) s4 (decide (b5 = true)) s6) →
(p_tRow 30 0 0 1 5) ∧
(∀ x7 : Int,
((Rng .i64 x7) →
(∀ x8 : Int,
((Rng .i64 x8) →
(∀ x9 : Int,
((Rng .i64 x9) →
(∀ b10 : Bool,
(∀ s11 : Sl,
((Ranged s11 [some .u16]) →
(∀ b12 : Bool,
(∀ s13 : Sl,
((Ranged s13 [some .u16]) →
((q_tRow 30 0 0 1 5 x7 x8 x9 (decide (b10 = true)) s11 (decide (b12 = true)) s13) →
(p_tRow 30 0 100 1 4) ∧
(∀ x14 : Int,
((Rng .i64 x14) →
(∀ x15 : Int,
((Rng .i64 x15) →
(∀ x16 : Int,
((Rng .i64 x16) →
(∀ b17 : Bool,
(∀ s18 : Sl,
((Ranged s18 [some .u16]) →
(∀ b19 : Bool,
(∀ s20 : Sl,
((Ranged s20 [some .u16]) →
((q_tRow 30 0 100 1 4 x14 x15 x16 (decide (b17 = true)) s18 (decide (b19 = true)) s20) →
(p_tRow 60 0 0 1 2) ∧
(∀ x21 : Int,
((Rng .i64 x21) →
(∀ x22 : Int,
((Rng .i64 x22) →
(∀ x23 : Int,
((Rng .i64 x23) →
(∀ b24 : Bool,
(∀ s25 : Sl,
((Ranged s25 [some .u16]) →
(∀ b26 : Bool,
(∀ s27 : Sl,
((Ranged s27 [some .u16]) →
((q_tRow 60 0 0 1 2 x21 x22 x23 (decide (b24 = true)) s25 (decide (b26 = true)) s27) →
(p_tRow 1 0 0 1 1) ∧
(∀ x28 : Int,
((Rng .i64 x28) →
(∀ x29 : Int,
((Rng .i64 x29) →
(∀ x30 : Int,
((Rng .i64 x30) →
(∀ b31 : Bool,
(∀ s32 : Sl,
((Ranged s32 [some .u16]) →
(∀ b33 : Bool,
(∀ s34 : Sl,
((Ranged s34 [some .u16]) →
((q_tRow 1 0 0 1 1 x28 x29 x30 (decide (b31 = true)) s32 (decide (b33 = true)) s34) →
(p_tRow 1 5 0 2 1) ∧
(∀ x35 : Int,
((Rng .i64 x35) →
(∀ x36 : Int,
((Rng .i64 x36) →
(∀ x37 : Int,
((Rng .i64 x37) →
(∀ b38 : Bool,
(∀ s39 : Sl,
((Ranged s39 [some .u16]) →
(∀ b40 : Bool,
(∀ s41 : Sl,
((Ranged s41 [some .u16]) →
((q_tRow 1 5 0 2 1 x35 x36 x37 (decide (b38 = true)) s39 (decide (b40 = true)) s41) →
(p_tRow 3 2 0 3 1) ∧
(∀ x42 : Int,
((Rng .i64 x42) →
(∀ x43 : Int,
((Rng .i64 x43) →
(∀ x44 : Int,
((Rng .i64 x44) →
(∀ b45 : Bool,
(∀ s46 : Sl,
((Ranged s46 [some .u16]) →
(∀ b47 : Bool,
(∀ s48 : Sl,
((Ranged s48 [some .u16]) →
((q_tRow 3 2 0 3 1 x42 x43 x44 (decide (b45 = true)) s46 (decide (b47 = true)) s48) →
(p_Look (bytes [97, 103, 101]) (decide False) (Sl.lit [[(.int x0), (.int x1), (.int x2), (.bool (decide (b3 = true))), (Sl.d s4), (.bool (decide (b5 = true))), (Sl.d s6)], [(.int x7), (.int x8), (.int x9), (.bool (decide (b10 = true))), (Sl.d s11), (.bool (decide (b12 = true))), (Sl.d s13)], [(.int x14), (.int x15), (.int x16), (.bool (decide (b17 = true))), (Sl.d s18), (.bool (decide (b19 = true))), (Sl.d s20)], [(.int x21), (.int x22), (.int x23), (.bool (decide (b24 = true))), (Sl.d s25), (.bool (decide (b26 = true))), (Sl.d s27)]]) (-1) 50) ∧
(∀ b49 : Bool,
(∀ s50 : Sl,
((Ranged s50 [some .u16]) →
(∀ b51 : Bool,
(∀ s52 : Sl,
((Ranged s52 [some .u16]) →
(∀ x53 : Int,
((Rng .i64 x53) →
((q_Look (bytes [97, 103, 101]) (decide False) (Sl.lit [[(.int x0), (.int x1), (.int x2), (.bool (decide (b3 = true))), (Sl.d s4), (.bool (decide (b5 = true))), (Sl.d s6)], [(.int x7), (.int x8), (.int x9), (.bool (decide (b10 = true))), (Sl.d s11), (.bool (decide (b12 = true))), (Sl.d s13)], [(.int x14), (.int x15), (.int x16), (.bool (decide (b17 = true))), (Sl.d s18), (.bool (decide (b19 = true))), (Sl.d s20)], [(.int x21), (.int x22), (.int x23), (.bool (decide (b24 = true))), (Sl.d s25), (.bool (decide (b26 = true))), (Sl.d s27)]]) (-1) 50 (decide (b49 = true)) s50 (decide (b51 = true)) s52 x53) →
(p_LookTwo (bytes [116, 119, 111]) (decide True) (Sl.lit [[(.int x28), (.int x29), (.int x30), (.bool (decide (b31 = true))), (Sl.d s32), (.bool (decide (b33 = true))), (Sl.d s34)], [(.int x35), (.int x36), (.int x37), (.bool (decide (b38 = true))), (Sl.d s39), (.bool (decide (b40 = true))), (Sl.d s41)], [(.int x42), (.int x43), (.int x44), (.bool (decide (b45 = true))), (Sl.d s46), (.bool (decide (b47 = true))), (Sl.d s48)]]) 3 1 0) ∧
(∀ b54 : Bool,
(∀ s55 : Sl,
((Ranged s55 [some .u16]) →
(∀ b56 : Bool,
(∀ s57 : Sl,
((Ranged s57 [some .u16]) →
(∀ x58 : Int,
((Rng .i64 x58) →
((q_LookTwo (bytes [116, 119, 111]) (decide True) (Sl.lit [[(.int x28), (.int x29), (.int x30), (.bool (decide (b31 = true))), (Sl.d s32), (.bool (decide (b33 = true))), (Sl.d s34)], [(.int x35), (.int x36), (.int x37), (.bool (decide (b38 = true))), (Sl.d s39), (.bool (decide (b40 = true))), (Sl.d s41)], [(.int x42), (.int x43), (.int x44), (.bool (decide (b45 = true))), (Sl.d s46), (.bool (decide (b47 = true))), (Sl.d s48)]]) 3 1 0 (decide (b54 = true)) s55 (decide (b56 = true)) s57 x58) →
(((x53 ≠ 6) →
(q_awake  (decide False)) ∧ True) ∧
(¬ (x53 ≠ 6) →
(((x58 ≠ 6) →
(q_awake  (decide False)) ∧ True) ∧
(¬ (x58 ≠ 6) →
(p_Look (bytes [97, 103, 101]) (decide False) (Sl.lit [[(.int x0), (.int x1), (.int x2), (.bool (decide (b3 = true))), (Sl.d s4), (.bool (decide (b5 = true))), (Sl.d s6)], [(.int x7), (.int x8), (.int x9), (.bool (decide (b10 = true))), (Sl.d s11), (.bool (decide (b12 = true))), (Sl.d s13)], [(.int x14), (.int x15), (.int x16), (.bool (decide (b17 = true))), (Sl.d s18), (.bool (decide (b19 = true))), (Sl.d s20)], [(.int x21), (.int x22), (.int x23), (.bool (decide (b24 = true))), (Sl.d s25), (.bool (decide (b26 = true))), (Sl.d s27)]]) 35 50) ∧
(∀ b59 : Bool,
(∀ s60 : Sl,
((Ranged s60 [some .u16]) →
(∀ b61 : Bool,
(∀ s62 : Sl,
((Ranged s62 [some .u16]) →
(∀ x63 : Int,
((Rng .i64 x63) →
((q_Look (bytes [97, 103, 101]) (decide False) (Sl.lit [[(.int x0), (.int x1), (.int x2), (.bool (decide (b3 = true))), (Sl.d s4), (.bool (decide (b5 = true))), (Sl.d s6)], [(.int x7), (.int x8), (.int x9), (.bool (decide (b10 = true))), (Sl.d s11), (.bool (decide (b12 = true))), (Sl.d s13)], [(.int x14), (.int x15), (.int x16), (.bool (decide (b17 = true))), (Sl.d s18), (.bool (decide (b19 = true))), (Sl.d s20)], [(.int x21), (.int x22), (.int x23), (.bool (decide (b24 = true))), (Sl.d s25), (.bool (decide (b26 = true))), (Sl.d s27)]]) 35 50 (decide (b59 = true)) s60 (decide (b61 = true)) s62 x63) →
(((x63 = 0) →
(p_kFrac 1 5) ∧
(∀ b64 : Bool,
(∀ s65 : Sl,
((Ranged s65 [some .u16]) →
(∀ b66 : Bool,
(∀ s67 : Sl,
((Ranged s67 [some .u16]) →
((q_kFrac 1 5 (decide (b64 = true)) s65 (decide (b66 = true)) s67) →
(p_kSameFrac (decide (b59 = true)) s60 (decide (b61 = true)) s62 (decide (b64 = true)) s65 (decide (b66 = true)) s67) ∧
(∀ b68 : Bool,
((q_kSameFrac (decide (b59 = true)) s60 (decide (b61 = true)) s62 (decide (b64 = true)) s65 (decide (b66 = true)) s67 (decide (b68 = true))) →
(((b68 = true) →
(p_Look (bytes [97, 103, 101]) (decide False) (Sl.lit [[(.int x0), (.int x1), (.int x2), (.bool (decide (b3 = true))), (Sl.d s4), (.bool (decide (b5 = true))), (Sl.d s6)], [(.int x7), (.int x8), (.int x9), (.bool (decide (b10 = true))), (Sl.d s11), (.bool (decide (b12 = true))), (Sl.d s13)], [(.int x14), (.int x15), (.int x16), (.bool (decide (b17 = true))), (Sl.d s18), (.bool (decide (b19 = true))), (Sl.d s20)], [(.int x21), (.int x22), (.int x23), (.bool (decide (b24 = true))), (Sl.d s25), (.bool (decide (b26 = true))), (Sl.d s27)]]) 35 100) ∧
(∀ b69 : Bool,
(∀ s70 : Sl,
((Ranged s70 [some .u16]) →
(∀ b71 : Bool,
(∀ s72 : Sl,
((Ranged s72 [some .u16]) →
(∀ x73 : Int,
((Rng .i64 x73) →
((q_Look (bytes [97, 103, 101]) (decide False) (Sl.lit [[(.int x0), (.int x1), (.int x2), (.bool (decide (b3 = true))), (Sl.d s4), (.bool (decide (b5 = true))), (Sl.d s6)], [(.int x7), (.int x8), (.int x9), (.bool (decide (b10 = true))), (Sl.d s11), (.bool (decide (b12 = true))), (Sl.d s13)], [(.int x14), (.int x15), (.int x16), (.bool (decide (b17 = true))), (Sl.d s18), (.bool (decide (b19 = true))), (Sl.d s20)], [(.int x21), (.int x22), (.int x23), (.bool (decide (b24 = true))), (Sl.d s25), (.bool (decide (b26 = true))), (Sl.d s27)]]) 35 100 (decide (b69 = true)) s70 (decide (b71 = true)) s72 x73) →
(((x73 = 0) →
(p_kFrac 1 4) ∧
(∀ b74 : Bool,
(∀ s75 : Sl,
((Ranged s75 [some .u16]) →
(∀ b76 : Bool,
(∀ s77 : Sl,
((Ranged s77 [some .u16]) →
((q_kFrac 1 4 (decide (b74 = true)) s75 (decide (b76 = true)) s77) →
(p_kSameFrac (decide (b69 = true)) s70 (decide (b71 = true)) s72 (decide (b74 = true)) s75 (decide (b76 = true)) s77) ∧
(∀ b78 : Bool,
((q_kSameFrac (decide (b69 = true)) s70 (decide (b71 = true)) s72 (decide (b74 = true)) s75 (decide (b76 = true)) s77 (decide (b78 = true))) →
(((b78 = true) →
(p_Look (bytes [97, 103, 101]) (decide False) (Sl.lit [[(.int x0), (.int x1), (.int x2), (.bool (decide (b3 = true))), (Sl.d s4), (.bool (decide (b5 = true))), (Sl.d s6)], [(.int x7), (.int x8), (.int x9), (.bool (decide (b10 = true))), (Sl.d s11), (.bool (decide (b12 = true))), (Sl.d s13)], [(.int x14), (.int x15), (.int x16), (.bool (decide (b17 = true))), (Sl.d s18), (.bool (decide (b19 = true))), (Sl.d s20)], [(.int x21), (.int x22), (.int x23), (.bool (decide (b24 = true))), (Sl.d s25), (.bool (decide (b26 = true))), (Sl.d s27)]]) 60 0) ∧
(∀ b79 : Bool,
(∀ s80 : Sl,
((Ranged s80 [some .u16]) →
(∀ b81 : Bool,
(∀ s82 : Sl,
((Ranged s82 [some .u16]) →
(∀ x83 : Int,
((Rng .i64 x83) →
((q_Look (bytes [97, 103, 101]) (decide False) (Sl.lit [[(.int x0), (.int x1), (.int x2), (.bool (decide (b3 = true))), (Sl.d s4), (.bool (decide (b5 = true))), (Sl.d s6)], [(.int x7), (.int x8), (.int x9), (.bool (decide (b10 = true))), (Sl.d s11), (.bool (decide (b12 = true))), (Sl.d s13)], [(.int x14), (.int x15), (.int x16), (.bool (decide (b17 = true))), (Sl.d s18), (.bool (decide (b19 = true))), (Sl.d s20)], [(.int x21), (.int x22), (.int x23), (.bool (decide (b24 = true))), (Sl.d s25), (.bool (decide (b26 = true))), (Sl.d s27)]]) 60 0 (decide (b79 = true)) s80 (decide (b81 = true)) s82 x83) →
(((x83 = 0) →
(p_kFrac 1 2) ∧
(∀ b84 : Bool,
(∀ s85 : Sl,
((Ranged s85 [some .u16]) →
(∀ b86 : Bool,
(∀ s87 : Sl,
((Ranged s87 [some .u16]) →
((q_kFrac 1 2 (decide (b84 = true)) s85 (decide (b86 = true)) s87) →
(p_kSameFrac (decide (b79 = true)) s80 (decide (b81 = true)) s82 (decide (b84 = true)) s85 (decide (b86 = true)) s87) ∧
(∀ b88 : Bool,
((q_kSameFrac (decide (b79 = true)) s80 (decide (b81 = true)) s82 (decide (b84 = true)) s85 (decide (b86 = true)) s87 (decide (b88 = true))) →
(((b88 = true) →
(p_LookTwo (bytes [116, 119, 111]) (decide True) (Sl.lit [[(.int x28), (.int x29), (.int x30), (.bool (decide (b31 = true))), (Sl.d s32), (.bool (decide (b33 = true))), (Sl.d s34)], [(.int x35), (.int x36), (.int x37), (.bool (decide (b38 = true))), (Sl.d s39), (.bool (decide (b40 = true))), (Sl.d s41)], [(.int x42), (.int x43), (.int x44), (.bool (decide (b45 = true))), (Sl.d s46), (.bool (decide (b47 = true))), (Sl.d s48)]]) 2 7 0) ∧
(∀ b89 : Bool,
(∀ s90 : Sl,
((Ranged s90 [some .u16]) →
(∀ b91 : Bool,
(∀ s92 : Sl,
((Ranged s92 [some .u16]) →
(∀ x93 : Int,
((Rng .i64 x93) →
((q_LookTwo (bytes [116, 119, 111]) (decide True) (Sl.lit [[(.int x28), (.int x29), (.int x30), (.bool (decide (b31 = true))), (Sl.d s32), (.bool (decide (b33 = true))), (Sl.d s34)], [(.int x35), (.int x36), (.int x37), (.bool (decide (b38 = true))), (Sl.d s39), (.bool (decide (b40 = true))), (Sl.d s41)], [(.int x42), (.int x43), (.int x44), (.bool (decide (b45 = true))), (Sl.d s46), (.bool (decide (b47 = true))), (Sl.d s48)]]) 2 7 0 (decide (b89 = true)) s90 (decide (b91 = true)) s92 x93) →
(((x93 = 0) →
(p_kFrac 2 1) ∧
(∀ b94 : Bool,
(∀ s95 : Sl,
((Ranged s95 [some .u16]) →
(∀ b96 : Bool,
(∀ s97 : Sl,
((Ranged s97 [some .u16]) →
((q_kFrac 2 1 (decide (b94 = true)) s95 (decide (b96 = true)) s97) →
(p_kSameFrac (decide (b89 = true)) s90 (decide (b91 = true)) s92 (decide (b94 = true)) s95 (decide (b96 = true)) s97) ∧
(∀ b98 : Bool,
((q_kSameFrac (decide (b89 = true)) s90 (decide (b91 = true)) s92 (decide (b94 = true)) s95 (decide (b96 = true)) s97 (decide (b98 = true))) →
(((b98 = true) →
(p_LookTwo (bytes [116, 119, 111]) (decide True) (Sl.lit [[(.int x28), (.int x29), (.int x30), (.bool (decide (b31 = true))), (Sl.d s32), (.bool (decide (b33 = true))), (Sl.d s34)], [(.int x35), (.int x36), (.int x37), (.bool (decide (b38 = true))), (Sl.d s39), (.bool (decide (b40 = true))), (Sl.d s41)], [(.int x42), (.int x43), (.int x44), (.bool (decide (b45 = true))), (Sl.d s46), (.bool (decide (b47 = true))), (Sl.d s48)]]) 5 2 0) ∧
(∀ b99 : Bool,
(∀ s100 : Sl,
((Ranged s100 [some .u16]) →
(∀ b101 : Bool,
(∀ s102 : Sl,
((Ranged s102 [some .u16]) →
(∀ x103 : Int,
((Rng .i64 x103) →
((q_LookTwo (bytes [116, 119, 111]) (decide True) (Sl.lit [[(.int x28), (.int x29), (.int x30), (.bool (decide (b31 = true))), (Sl.d s32), (.bool (decide (b33 = true))), (Sl.d s34)], [(.int x35), (.int x36), (.int x37), (.bool (decide (b38 = true))), (Sl.d s39), (.bool (decide (b40 = true))), (Sl.d s41)], [(.int x42), (.int x43), (.int x44), (.bool (decide (b45 = true))), (Sl.d s46), (.bool (decide (b47 = true))), (Sl.d s48)]]) 5 2 0 (decide (b99 = true)) s100 (decide (b101 = true)) s102 x103) →
(((x103 = 0) →
(p_kFrac 3 1) ∧
(∀ b104 : Bool,
(∀ s105 : Sl,
((Ranged s105 [some .u16]) →
(∀ b106 : Bool,
(∀ s107 : Sl,
((Ranged s107 [some .u16]) →
((q_kFrac 3 1 (decide (b104 = true)) s105 (decide (b106 = true)) s107) →
(p_kSameFrac (decide (b99 = true)) s100 (decide (b101 = true)) s102 (decide (b104 = true)) s105 (decide (b106 = true)) s107) ∧
(∀ b108 : Bool,
((q_kSameFrac (decide (b99 = true)) s100 (decide (b101 = true)) s102 (decide (b104 = true)) s105 (decide (b106 = true)) s107 (decide (b108 = true))) →
(q_awake  (decide (b108 = true))) ∧ True)))))))))) ∧
(¬ (x103 = 0) →
(q_awake  (decide False)) ∧ True)))))))))))) ∧
(¬ (b98 = true) →
(q_awake  (decide False)) ∧ True)))))))))))) ∧
(¬ (x93 = 0) →
(q_awake  (decide False)) ∧ True)))))))))))) ∧
(¬ (b88 = true) →
(q_awake  (decide False)) ∧ True)))))))))))) ∧
(¬ (x83 = 0) →
(q_awake  (decide False)) ∧ True)))))))))))) ∧
(¬ (b78 = true) →
(q_awake  (decide False)) ∧ True)))))))))))) ∧
(¬ (x73 = 0) →
(q_awake  (decide False)) ∧ True)))))))))))) ∧
(¬ (b68 = true) →
(q_awake  (decide False)) ∧ True)))))))))))) ∧
(¬ (x63 = 0) →
(q_awake  (decide False)) ∧ True)))))))))))))))))))))))))))))))))))))))))))))))))))))))))))))))))))))))))))))))))))))))))))))))))))))))))))))))))))))))))))))
end Go.Sx.N
