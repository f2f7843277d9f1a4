/-
  The conditions of the functions. Conditions: none; printed by a program of our own.
-/
import Derived.Test.YtehofgnfaiefkaaGreatMemSpec
set_option maxRecDepth 20000
namespace Go.Sx.N
def V_tRight : Prop :=
(∀ b0 : Bool,
(∀ x1 : Int,
((Rng .i64 x1) →
(∀ x2 : Int,
((Rng .i64 x2) →
(∀ x3 : Int,
((Rng .i64 x3) →
(∀ b4 : Bool,
(∀ s5 : Sl,
((Ranged s5 [some .u16]) →
(∀ b6 : Bool,
(∀ s7 : Sl,
((Ranged s7 [some .u16]) →
((p_tRight (decide (b0 = true)) x1 x2 x3 (decide (b4 = true)) s5 (decide (b6 = true)) s7) →
(((x1 < (-2147483648)) →
(q_tRight (decide (b0 = true)) x1 x2 x3 (decide (b4 = true)) s5 (decide (b6 = true)) s7 (decide False)) ∧ True) ∧
(¬ (x1 < (-2147483648)) →
(((x1 > 2147483647) →
(q_tRight (decide (b0 = true)) x1 x2 x3 (decide (b4 = true)) s5 (decide (b6 = true)) s7 (decide False)) ∧ True) ∧
(¬ (x1 > 2147483647) →
(((x2 < (-2147483648)) →
(q_tRight (decide (b0 = true)) x1 x2 x3 (decide (b4 = true)) s5 (decide (b6 = true)) s7 (decide False)) ∧ True) ∧
(¬ (x2 < (-2147483648)) →
(((x2 > 2147483647) →
(q_tRight (decide (b0 = true)) x1 x2 x3 (decide (b4 = true)) s5 (decide (b6 = true)) s7 (decide False)) ∧ True) ∧
(¬ (x2 > 2147483647) →
(((¬ (b0 = true)) →
(((x2 ≠ 0) →
(q_tRight (decide (b0 = true)) x1 x2 x3 (decide (b4 = true)) s5 (decide (b6 = true)) s7 (decide False)) ∧ True) ∧
(¬ (x2 ≠ 0) →
(((x3 ≥ 0) →
(((x3 < 65536) →
(p_rValid2 (decide (b4 = true)) s5 (decide (b6 = true)) s7) ∧
(∀ b8 : Bool,
((q_rValid2 (decide (b4 = true)) s5 (decide (b6 = true)) s7 (decide (b8 = true))) →
(q_tRight (decide (b0 = true)) x1 x2 x3 (decide (b4 = true)) s5 (decide (b6 = true)) s7 (decide (b8 = true))) ∧ True))) ∧
(¬ (x3 < 65536) →
(q_tRight (decide (b0 = true)) x1 x2 x3 (decide (b4 = true)) s5 (decide (b6 = true)) s7 (decide False)) ∧ True))) ∧
(¬ (x3 ≥ 0) →
(q_tRight (decide (b0 = true)) x1 x2 x3 (decide (b4 = true)) s5 (decide (b6 = true)) s7 (decide False)) ∧ True))))) ∧
(¬ (¬ (b0 = true)) →
(((x3 ≥ 0) →
(((x3 < 65536) →
(p_rValid2 (decide (b4 = true)) s5 (decide (b6 = true)) s7) ∧
(∀ b8 : Bool,
((q_rValid2 (decide (b4 = true)) s5 (decide (b6 = true)) s7 (decide (b8 = true))) →
(q_tRight (decide (b0 = true)) x1 x2 x3 (decide (b4 = true)) s5 (decide (b6 = true)) s7 (decide (b8 = true))) ∧ True))) ∧
(¬ (x3 < 65536) →
(q_tRight (decide (b0 = true)) x1 x2 x3 (decide (b4 = true)) s5 (decide (b6 = true)) s7 (decide False)) ∧ True))) ∧
(¬ (x3 ≥ 0) →
(q_tRight (decide (b0 = true)) x1 x2 x3 (decide (b4 = true)) s5 (decide (b6 = true)) s7 (decide False)) ∧ True))))))))))))))))))))))))))
def V_tBefore : Prop :=
(∀ x0 : Int,
((Rng .i64 x0) →
(∀ x1 : Int,
((Rng .i64 x1) →
(∀ x2 : Int,
((Rng .i64 x2) →
(∀ b3 : Bool,
(∀ s4 : Sl,
((Ranged s4 [some .u16]) →
(∀ b5 : Bool,
(∀ s6 : Sl,
((Ranged s6 [some .u16]) →
(∀ x7 : Int,
((Rng .i64 x7) →
(∀ x8 : Int,
((Rng .i64 x8) →
(∀ x9 : Int,
((Rng .i64 x9) →
(∀ b10 : Bool,
(∀ s11 : Sl,
((Ranged s11 [some .u16]) →
(∀ b12 : Bool,
(∀ s13 : Sl,
((Ranged s13 [some .u16]) →
((p_tBefore x0 x1 x2 (decide (b3 = true)) s4 (decide (b5 = true)) s6 x7 x8 x9 (decide (b10 = true)) s11 (decide (b12 = true)) s13) →
(((x0 ≠ x7) →
(q_tBefore x0 x1 x2 (decide (b3 = true)) s4 (decide (b5 = true)) s6 x7 x8 x9 (decide (b10 = true)) s11 (decide (b12 = true)) s13 (decide (x0 < x7))) ∧ True) ∧
(¬ (x0 ≠ x7) →
(((x1 ≠ x8) →
(q_tBefore x0 x1 x2 (decide (b3 = true)) s4 (decide (b5 = true)) s6 x7 x8 x9 (decide (b10 = true)) s11 (decide (b12 = true)) s13 (decide (x1 < x8))) ∧ True) ∧
(¬ (x1 ≠ x8) →
(q_tBefore x0 x1 x2 (decide (b3 = true)) s4 (decide (b5 = true)) s6 x7 x8 x9 (decide (b10 = true)) s11 (decide (b12 = true)) s13 (decide (x2 < x9))) ∧ True)))))))))))))))))))))))))))))
def V_rTValid : Prop :=
(∀ y0 : ByteArray,
(∀ b1 : Bool,
(∀ s2 : Sl,
((Ranged s2 [some .i64, some .i64, some .i64, none, none, none, none]) →
((p_rTValid y0 (decide (b1 = true)) s2) →
(Rng .i64 (ylen y0)) ∧
((((ylen y0) < 1) →
(q_rTValid y0 (decide (b1 = true)) s2 (decide False)) ∧ True) ∧
(¬ ((ylen y0) < 1) →
(Rng .i64 (ylen y0)) ∧
((((ylen y0) > 24) →
(q_rTValid y0 (decide (b1 = true)) s2 (decide False)) ∧ True) ∧
(¬ ((ylen y0) > 24) →
((Small s2) →
((((Sl.len s2) > 400) →
(q_rTValid y0 (decide (b1 = true)) s2 (decide False)) ∧ True) ∧
(¬ ((Sl.len s2) > 400) →
(∃ (J3 : Int → Prop) (M3 : Int → Nat), J3 0 ∧
(∀ x4 : Int,
((Rng .i64 x4) →
(J3 x4 →
((Small s2) →
(((x4 < (Sl.len s2)) →
((0 : Int) ≤ x4) ∧
(x4 < (Sl.len s2)) ∧
((Rng .i64 (Sl.int s2 x4 0)) →
((Rng .i64 (Sl.int s2 x4 1)) →
((Rng .i64 (Sl.int s2 x4 2)) →
((Ranged (Sl.sub s2 x4 4) [some .u16]) →
((Ranged (Sl.sub s2 x4 6) [some .u16]) →
(p_tRight (decide (b1 = true)) (Sl.int s2 x4 0) (Sl.int s2 x4 1) (Sl.int s2 x4 2) (decide (Sl.bool s2 x4 3 = true)) (Sl.sub s2 x4 4) (decide (Sl.bool s2 x4 5 = true)) (Sl.sub s2 x4 6)) ∧
(∀ b5 : Bool,
((q_tRight (decide (b1 = true)) (Sl.int s2 x4 0) (Sl.int s2 x4 1) (Sl.int s2 x4 2) (decide (Sl.bool s2 x4 3 = true)) (Sl.sub s2 x4 4) (decide (Sl.bool s2 x4 5 = true)) (Sl.sub s2 x4 6) (decide (b5 = true))) →
(((¬ (b5 = true)) →
(q_rTValid y0 (decide (b1 = true)) s2 (decide False)) ∧ True) ∧
(¬ (¬ (b5 = true)) →
(((x4 > 0) →
((0 : Int) ≤ x4) ∧
(x4 < (Sl.len s2)) ∧
(Rng .i64 (x4 - 1)) ∧
((0 : Int) ≤ (x4 - 1)) ∧
((x4 - 1) < (Sl.len s2)) ∧
((((Rng .i64 (Sl.int s2 x4 0)) →
((Rng .i64 (Sl.int s2 x4 1)) →
((Rng .i64 (Sl.int s2 x4 2)) →
((Ranged (Sl.sub s2 x4 4) [some .u16]) →
((Ranged (Sl.sub s2 x4 6) [some .u16]) →
((Rng .i64 (Sl.int s2 (x4 - 1) 0)) →
((Rng .i64 (Sl.int s2 (x4 - 1) 1)) →
((Rng .i64 (Sl.int s2 (x4 - 1) 2)) →
((Ranged (Sl.sub s2 (x4 - 1) 4) [some .u16]) →
((Ranged (Sl.sub s2 (x4 - 1) 6) [some .u16]) →
(p_tBefore (Sl.int s2 x4 0) (Sl.int s2 x4 1) (Sl.int s2 x4 2) (decide (Sl.bool s2 x4 3 = true)) (Sl.sub s2 x4 4) (decide (Sl.bool s2 x4 5 = true)) (Sl.sub s2 x4 6) (Sl.int s2 (x4 - 1) 0) (Sl.int s2 (x4 - 1) 1) (Sl.int s2 (x4 - 1) 2) (decide (Sl.bool s2 (x4 - 1) 3 = true)) (Sl.sub s2 (x4 - 1) 4) (decide (Sl.bool s2 (x4 - 1) 5 = true)) (Sl.sub s2 (x4 - 1) 6)) ∧
(∀ b6 : Bool,
((q_tBefore (Sl.int s2 x4 0) (Sl.int s2 x4 1) (Sl.int s2 x4 2) (decide (Sl.bool s2 x4 3 = true)) (Sl.sub s2 x4 4) (decide (Sl.bool s2 x4 5 = true)) (Sl.sub s2 x4 6) (Sl.int s2 (x4 - 1) 0) (Sl.int s2 (x4 - 1) 1) (Sl.int s2 (x4 - 1) 2) (decide (Sl.bool s2 (x4 - 1) 3 = true)) (Sl.sub s2 (x4 - 1) 4) (decide (Sl.bool s2 (x4 - 1) 5 = true)) (Sl.sub s2 (x4 - 1) 6) (decide (b6 = true))) →
(((b6 = true) →
(q_rTValid y0 (decide (b1 = true)) s2 (decide False)) ∧ True) ∧
(¬ (b6 = true) →
(Rng .i64 (x4 + 1)) ∧
(J3 (x4 + 1) ∧ M3 (x4 + 1) < M3 x4)))))))))))))))) ∧
(((Rng .i64 (Sl.int s2 (x4 - 1) 0)) →
((Rng .i64 (Sl.int s2 (x4 - 1) 1)) →
((Rng .i64 (Sl.int s2 (x4 - 1) 2)) →
((Ranged (Sl.sub s2 (x4 - 1) 4) [some .u16]) →
((Ranged (Sl.sub s2 (x4 - 1) 6) [some .u16]) →
((Rng .i64 (Sl.int s2 x4 0)) →
((Rng .i64 (Sl.int s2 x4 1)) →
((Rng .i64 (Sl.int s2 x4 2)) →
((Ranged (Sl.sub s2 x4 4) [some .u16]) →
((Ranged (Sl.sub s2 x4 6) [some .u16]) →
(p_tBefore (Sl.int s2 x4 0) (Sl.int s2 x4 1) (Sl.int s2 x4 2) (decide (Sl.bool s2 x4 3 = true)) (Sl.sub s2 x4 4) (decide (Sl.bool s2 x4 5 = true)) (Sl.sub s2 x4 6) (Sl.int s2 (x4 - 1) 0) (Sl.int s2 (x4 - 1) 1) (Sl.int s2 (x4 - 1) 2) (decide (Sl.bool s2 (x4 - 1) 3 = true)) (Sl.sub s2 (x4 - 1) 4) (decide (Sl.bool s2 (x4 - 1) 5 = true)) (Sl.sub s2 (x4 - 1) 6)) ∧
(∀ b6 : Bool,
((q_tBefore (Sl.int s2 x4 0) (Sl.int s2 x4 1) (Sl.int s2 x4 2) (decide (Sl.bool s2 x4 3 = true)) (Sl.sub s2 x4 4) (decide (Sl.bool s2 x4 5 = true)) (Sl.sub s2 x4 6) (Sl.int s2 (x4 - 1) 0) (Sl.int s2 (x4 - 1) 1) (Sl.int s2 (x4 - 1) 2) (decide (Sl.bool s2 (x4 - 1) 3 = true)) (Sl.sub s2 (x4 - 1) 4) (decide (Sl.bool s2 (x4 - 1) 5 = true)) (Sl.sub s2 (x4 - 1) 6) (decide (b6 = true))) →
(((b6 = true) →
(q_rTValid y0 (decide (b1 = true)) s2 (decide False)) ∧ True) ∧
(¬ (b6 = true) →
(Rng .i64 (x4 + 1)) ∧
(J3 (x4 + 1) ∧ M3 (x4 + 1) < M3 x4)))))))))))))))))) ∧
(¬ (x4 > 0) →
(Rng .i64 (x4 + 1)) ∧
(J3 (x4 + 1) ∧ M3 (x4 + 1) < M3 x4))))))))))))) ∧
(¬ (x4 < (Sl.len s2)) →
(q_rTValid y0 (decide (b1 = true)) s2 (decide True)) ∧ True)))))))))))))))))))
def V_tForce : Prop :=
(∀ y0 : ByteArray,
(∀ b1 : Bool,
(∀ s2 : Sl,
((Ranged s2 [some .i64, some .i64, some .i64, none, none, none, none]) →
(∀ x3 : Int,
((Rng .i64 x3) →
(∀ x4 : Int,
((Rng .i64 x4) →
((p_tForce y0 (decide (b1 = true)) s2 x3 x4) →
((0 : Int) ≤ x3) ∧
(x3 < (Sl.len s2)) ∧
((Rng .i64 (Sl.int s2 x3 2)) →
((((Sl.int s2 x3 2) > x4) →
(q_tForce y0 (decide (b1 = true)) s2 x3 x4 (decide False)) ∧ True) ∧
(¬ ((Sl.int s2 x3 2) > x4) →
(Rng .i64 (x3 + 1)) ∧
(∃ (J5 : Int → Prop) (M5 : Int → Nat), J5 (x3 + 1) ∧
(∀ x6 : Int,
((Rng .i64 x6) →
(J5 x6 →
((Small s2) →
(((x6 < (Sl.len s2)) →
((0 : Int) ≤ x6) ∧
(x6 < (Sl.len s2)) ∧
((Rng .i64 (Sl.int s2 x6 0)) →
((0 : Int) ≤ x3) ∧
(x3 < (Sl.len s2)) ∧
((Rng .i64 (Sl.int s2 x3 0)) →
((((Sl.int s2 x6 0) = (Sl.int s2 x3 0)) →
((0 : Int) ≤ x6) ∧
(x6 < (Sl.len s2)) ∧
((Rng .i64 (Sl.int s2 x6 1)) →
((0 : Int) ≤ x3) ∧
(x3 < (Sl.len s2)) ∧
((Rng .i64 (Sl.int s2 x3 1)) →
((((Sl.int s2 x6 1) = (Sl.int s2 x3 1)) →
((0 : Int) ≤ x6) ∧
(x6 < (Sl.len s2)) ∧
((Rng .i64 (Sl.int s2 x6 2)) →
((((Sl.int s2 x6 2) ≤ x4) →
(q_tForce y0 (decide (b1 = true)) s2 x3 x4 (decide False)) ∧ True) ∧
(¬ ((Sl.int s2 x6 2) ≤ x4) →
(Rng .i64 (x6 + 1)) ∧
(J5 (x6 + 1) ∧ M5 (x6 + 1) < M5 x6))))) ∧
(¬ ((Sl.int s2 x6 1) = (Sl.int s2 x3 1)) →
(Rng .i64 (x6 + 1)) ∧
(J5 (x6 + 1) ∧ M5 (x6 + 1) < M5 x6)))))) ∧
(¬ ((Sl.int s2 x6 0) = (Sl.int s2 x3 0)) →
(Rng .i64 (x6 + 1)) ∧
(J5 (x6 + 1) ∧ M5 (x6 + 1) < M5 x6)))))) ∧
(¬ (x6 < (Sl.len s2)) →
(q_tForce y0 (decide (b1 = true)) s2 x3 x4 (decide True)) ∧ True)))))))))))))))))))
def V_rLook : Prop :=
(∀ y0 : ByteArray,
(∀ b1 : Bool,
(∀ s2 : Sl,
((Ranged s2 [some .i64, some .i64, some .i64, none, none, none, none]) →
(∀ x3 : Int,
((Rng .i64 x3) →
(∀ x4 : Int,
((Rng .i64 x4) →
((p_rLook y0 (decide (b1 = true)) s2 x3 x4) →
(p_rTValid y0 (decide (b1 = true)) s2) ∧
(∀ b5 : Bool,
((q_rTValid y0 (decide (b1 = true)) s2 (decide (b5 = true))) →
(((¬ (b5 = true)) →
(q_rLook y0 (decide (b1 = true)) s2 x3 x4 (decide False) Sl.nil (decide False) Sl.nil 2) ∧ True) ∧
(¬ (¬ (b5 = true)) →
(((b1 = true) →
(q_rLook y0 (decide (b1 = true)) s2 x3 x4 (decide False) Sl.nil (decide False) Sl.nil 2) ∧ True) ∧
(¬ (b1 = true) →
(∃ (J6 : Int → Int → Prop) (M6 : Int → Int → Nat), J6 (-1) 0 ∧
(∀ x7 : Int,
((Rng .i64 x7) →
(∀ x8 : Int,
((Rng .i64 x8) →
(J6 x7 x8 →
((Small s2) →
(((x8 < (Sl.len s2)) →
(p_tForce y0 (decide (b1 = true)) s2 x8 x4) ∧
(∀ b9 : Bool,
((q_tForce y0 (decide (b1 = true)) s2 x8 x4 (decide (b9 = true))) →
(((b9 = true) →
((0 : Int) ≤ x8) ∧
(x8 < (Sl.len s2)) ∧
((Rng .i64 (Sl.int s2 x8 0)) →
((((Sl.int s2 x8 0) ≤ x3) →
(((x7 < 0) →
(Rng .i64 (x8 + 1)) ∧
(J6 x8 (x8 + 1) ∧ M6 x8 (x8 + 1) < M6 x7 x8)) ∧
(¬ (x7 < 0) →
((0 : Int) ≤ x8) ∧
(x8 < (Sl.len s2)) ∧
((Rng .i64 (Sl.int s2 x8 0)) →
((0 : Int) ≤ x7) ∧
(x7 < (Sl.len s2)) ∧
((Rng .i64 (Sl.int s2 x7 0)) →
((((Sl.int s2 x8 0) > (Sl.int s2 x7 0)) →
(Rng .i64 (x8 + 1)) ∧
(J6 x8 (x8 + 1) ∧ M6 x8 (x8 + 1) < M6 x7 x8)) ∧
(¬ ((Sl.int s2 x8 0) > (Sl.int s2 x7 0)) →
(Rng .i64 (x8 + 1)) ∧
(J6 x7 (x8 + 1) ∧ M6 x7 (x8 + 1) < M6 x7 x8)))))))) ∧
(¬ ((Sl.int s2 x8 0) ≤ x3) →
(Rng .i64 (x8 + 1)) ∧
(J6 x7 (x8 + 1) ∧ M6 x7 (x8 + 1) < M6 x7 x8))))) ∧
(¬ (b9 = true) →
(Rng .i64 (x8 + 1)) ∧
(J6 x7 (x8 + 1) ∧ M6 x7 (x8 + 1) < M6 x7 x8)))))) ∧
(¬ (x8 < (Sl.len s2)) →
(((x7 < 0) →
(q_rLook y0 (decide (b1 = true)) s2 x3 x4 (decide False) Sl.nil (decide False) Sl.nil 6) ∧ True) ∧
(¬ (x7 < 0) →
((0 : Int) ≤ x7) ∧
(x7 < (Sl.len s2)) ∧
((Ranged (Sl.sub s2 x7 4) [some .u16]) →
((Ranged (Sl.sub s2 x7 6) [some .u16]) →
(q_rLook y0 (decide (b1 = true)) s2 x3 x4 (decide (Sl.bool s2 x7 3 = true)) (Sl.sub s2 x7 4) (decide (Sl.bool s2 x7 5 = true)) (Sl.sub s2 x7 6) 0) ∧ True))))))))))))))))))))))))))))
def V_rLookTwo : Prop :=
(∀ y0 : ByteArray,
(∀ b1 : Bool,
(∀ s2 : Sl,
((Ranged s2 [some .i64, some .i64, some .i64, none, none, none, none]) →
(∀ x3 : Int,
((Rng .i64 x3) →
(∀ x4 : Int,
((Rng .i64 x4) →
(∀ x5 : Int,
((Rng .i64 x5) →
((p_rLookTwo y0 (decide (b1 = true)) s2 x3 x4 x5) →
(p_rTValid y0 (decide (b1 = true)) s2) ∧
(∀ b6 : Bool,
((q_rTValid y0 (decide (b1 = true)) s2 (decide (b6 = true))) →
(((¬ (b6 = true)) →
(q_rLookTwo y0 (decide (b1 = true)) s2 x3 x4 x5 (decide False) Sl.nil (decide False) Sl.nil 2) ∧ True) ∧
(¬ (¬ (b6 = true)) →
(((¬ (b1 = true)) →
(q_rLookTwo y0 (decide (b1 = true)) s2 x3 x4 x5 (decide False) Sl.nil (decide False) Sl.nil 2) ∧ True) ∧
(¬ (¬ (b1 = true)) →
(∃ (J7 : Int → Int → Prop) (M7 : Int → Int → Nat), J7 (-1) 0 ∧
(∀ x8 : Int,
((Rng .i64 x8) →
(∀ x9 : Int,
((Rng .i64 x9) →
(J7 x8 x9 →
((Small s2) →
(((x9 < (Sl.len s2)) →
(p_tForce y0 (decide (b1 = true)) s2 x9 x5) ∧
(∀ b10 : Bool,
((q_tForce y0 (decide (b1 = true)) s2 x9 x5 (decide (b10 = true))) →
(((b10 = true) →
((0 : Int) ≤ x9) ∧
(x9 < (Sl.len s2)) ∧
((Rng .i64 (Sl.int s2 x9 0)) →
((((Sl.int s2 x9 0) ≤ x3) →
(((x8 < 0) →
(Rng .i64 (x9 + 1)) ∧
(J7 x9 (x9 + 1) ∧ M7 x9 (x9 + 1) < M7 x8 x9)) ∧
(¬ (x8 < 0) →
((0 : Int) ≤ x9) ∧
(x9 < (Sl.len s2)) ∧
((Rng .i64 (Sl.int s2 x9 0)) →
((0 : Int) ≤ x8) ∧
(x8 < (Sl.len s2)) ∧
((Rng .i64 (Sl.int s2 x8 0)) →
((((Sl.int s2 x9 0) > (Sl.int s2 x8 0)) →
(Rng .i64 (x9 + 1)) ∧
(J7 x9 (x9 + 1) ∧ M7 x9 (x9 + 1) < M7 x8 x9)) ∧
(¬ ((Sl.int s2 x9 0) > (Sl.int s2 x8 0)) →
(Rng .i64 (x9 + 1)) ∧
(J7 x8 (x9 + 1) ∧ M7 x8 (x9 + 1) < M7 x8 x9)))))))) ∧
(¬ ((Sl.int s2 x9 0) ≤ x3) →
(Rng .i64 (x9 + 1)) ∧
(J7 x8 (x9 + 1) ∧ M7 x8 (x9 + 1) < M7 x8 x9))))) ∧
(¬ (b10 = true) →
(Rng .i64 (x9 + 1)) ∧
(J7 x8 (x9 + 1) ∧ M7 x8 (x9 + 1) < M7 x8 x9)))))) ∧
(¬ (x9 < (Sl.len s2)) →
(∃ (J10 : Int → Int → Prop) (M10 : Int → Int → Nat), J10 (-1) 0 ∧
(∀ x11 : Int,
((Rng .i64 x11) →
(∀ x12 : Int,
((Rng .i64 x12) →
(J10 x11 x12 →
((Small s2) →
(((x12 < (Sl.len s2)) →
(((x8 ≥ 0) →
(p_tForce y0 (decide (b1 = true)) s2 x12 x5) ∧
(∀ b13 : Bool,
((q_tForce y0 (decide (b1 = true)) s2 x12 x5 (decide (b13 = true))) →
(((b13 = true) →
((0 : Int) ≤ x12) ∧
(x12 < (Sl.len s2)) ∧
((Rng .i64 (Sl.int s2 x12 0)) →
((0 : Int) ≤ x8) ∧
(x8 < (Sl.len s2)) ∧
((Rng .i64 (Sl.int s2 x8 0)) →
((((Sl.int s2 x12 0) = (Sl.int s2 x8 0)) →
((0 : Int) ≤ x12) ∧
(x12 < (Sl.len s2)) ∧
((Rng .i64 (Sl.int s2 x12 1)) →
((((Sl.int s2 x12 1) ≤ x4) →
(((x11 < 0) →
(Rng .i64 (x12 + 1)) ∧
(J10 x12 (x12 + 1) ∧ M10 x12 (x12 + 1) < M10 x11 x12)) ∧
(¬ (x11 < 0) →
((0 : Int) ≤ x12) ∧
(x12 < (Sl.len s2)) ∧
((Rng .i64 (Sl.int s2 x12 1)) →
((0 : Int) ≤ x11) ∧
(x11 < (Sl.len s2)) ∧
((Rng .i64 (Sl.int s2 x11 1)) →
((((Sl.int s2 x12 1) > (Sl.int s2 x11 1)) →
(Rng .i64 (x12 + 1)) ∧
(J10 x12 (x12 + 1) ∧ M10 x12 (x12 + 1) < M10 x11 x12)) ∧
(¬ ((Sl.int s2 x12 1) > (Sl.int s2 x11 1)) →
(Rng .i64 (x12 + 1)) ∧
(J10 x11 (x12 + 1) ∧ M10 x11 (x12 + 1) < M10 x11 x12)))))))) ∧
(¬ ((Sl.int s2 x12 1) ≤ x4) →
(Rng .i64 (x12 + 1)) ∧
(J10 x11 (x12 + 1) ∧ M10 x11 (x12 + 1) < M10 x11 x12))))) ∧
(¬ ((Sl.int s2 x12 0) = (Sl.int s2 x8 0)) →
(Rng .i64 (x12 + 1)) ∧
(J10 x11 (x12 + 1) ∧ M10 x11 (x12 + 1) < M10 x11 x12)))))) ∧
(¬ (b13 = true) →
(Rng .i64 (x12 + 1)) ∧
(J10 x11 (x12 + 1) ∧ M10 x11 (x12 + 1) < M10 x11 x12)))))) ∧
(¬ (x8 ≥ 0) →
(((x11 < 0) →
(q_rLookTwo y0 (decide (b1 = true)) s2 x3 x4 x5 (decide False) Sl.nil (decide False) Sl.nil 6) ∧ True) ∧
(¬ (x11 < 0) →
((0 : Int) ≤ x11) ∧
(x11 < (Sl.len s2)) ∧
((Ranged (Sl.sub s2 x11 4) [some .u16]) →
((Ranged (Sl.sub s2 x11 6) [some .u16]) →
(q_rLookTwo y0 (decide (b1 = true)) s2 x3 x4 x5 (decide (Sl.bool s2 x11 3 = true)) (Sl.sub s2 x11 4) (decide (Sl.bool s2 x11 5 = true)) (Sl.sub s2 x11 6) 0) ∧ True))))))) ∧
(¬ (x12 < (Sl.len s2)) →
(((x11 < 0) →
(q_rLookTwo y0 (decide (b1 = true)) s2 x3 x4 x5 (decide False) Sl.nil (decide False) Sl.nil 6) ∧ True) ∧
(¬ (x11 < 0) →
((0 : Int) ≤ x11) ∧
(x11 < (Sl.len s2)) ∧
((Ranged (Sl.sub s2 x11 4) [some .u16]) →
((Ranged (Sl.sub s2 x11 6) [some .u16]) →
(q_rLookTwo y0 (decide (b1 = true)) s2 x3 x4 x5 (decide (Sl.bool s2 x11 3 = true)) (Sl.sub s2 x11 4) (decide (Sl.bool s2 x11 5 = true)) (Sl.sub s2 x11 6) 0) ∧ True)))))))))))))))))))))))))))))))))))))))
def V_Few : Prop :=
(∀ y0 : ByteArray,
(∀ b1 : Bool,
(∀ s2 : Sl,
((Ranged s2 [some .i64, some .i64, some .i64, none, none, none, none]) →
((p_Few y0 (decide (b1 = true)) s2) →
(∃ (J3 : Int → Int → Prop) (M3 : Int → Int → Nat), J3 0 0 ∧
(∀ x4 : Int,
((Rng .i64 x4) →
(∀ x5 : Int,
((Rng .i64 x5) →
(J3 x4 x5 →
((Small s2) →
(((x5 < (Sl.len s2)) →
(((x5 < 60) →
((0 : Int) ≤ x5) ∧
(x5 < (Sl.len s2)) ∧
((Ranged (Sl.sub s2 x5 4) [some .u16]) →
((Ranged (Sl.sub s2 x5 6) [some .u16]) →
(p_kLimbs (decide (Sl.bool s2 x5 3 = true)) (Sl.sub s2 x5 4) (decide (Sl.bool s2 x5 5 = true)) (Sl.sub s2 x5 6)) ∧
(∀ x6 : Int,
((Rng .i64 x6) →
((q_kLimbs (decide (Sl.bool s2 x5 3 = true)) (Sl.sub s2 x5 4) (decide (Sl.bool s2 x5 5 = true)) (Sl.sub s2 x5 6) x6) →
(J3 (IntKind.wrap .i64 (x4 + x6)) (IntKind.wrap .i64 (x5 + 1)) ∧ M3 (IntKind.wrap .i64 (x4 + x6)) (IntKind.wrap .i64 (x5 + 1)) < M3 x4 x5))))))) ∧
(¬ (x5 < 60) →
((Small s2) →
((((Sl.len s2) ≤ 60) →
(((x4 ≤ 1200) →
(Rng .i64 (ylen y0)) ∧
(q_Few y0 (decide (b1 = true)) s2 (decide ((ylen y0) ≤ 300))) ∧ True) ∧
(¬ (x4 ≤ 1200) →
(q_Few y0 (decide (b1 = true)) s2 (decide False)) ∧ True))) ∧
(¬ ((Sl.len s2) ≤ 60) →
((Small s2) →
((((Sl.len s2) > 400) →
(((x4 ≤ 1200) →
(Rng .i64 (ylen y0)) ∧
(q_Few y0 (decide (b1 = true)) s2 (decide ((ylen y0) ≤ 300))) ∧ True) ∧
(¬ (x4 ≤ 1200) →
(q_Few y0 (decide (b1 = true)) s2 (decide False)) ∧ True))) ∧
(¬ ((Sl.len s2) > 400) →
(q_Few y0 (decide (b1 = true)) s2 (decide False)) ∧ True))))))))) ∧
(¬ (x5 < (Sl.len s2)) →
((Small s2) →
((((Sl.len s2) ≤ 60) →
(((x4 ≤ 1200) →
(Rng .i64 (ylen y0)) ∧
(q_Few y0 (decide (b1 = true)) s2 (decide ((ylen y0) ≤ 300))) ∧ True) ∧
(¬ (x4 ≤ 1200) →
(q_Few y0 (decide (b1 = true)) s2 (decide False)) ∧ True))) ∧
(¬ ((Sl.len s2) ≤ 60) →
((Small s2) →
((((Sl.len s2) > 400) →
(((x4 ≤ 1200) →
(Rng .i64 (ylen y0)) ∧
(q_Few y0 (decide (b1 = true)) s2 (decide ((ylen y0) ≤ 300))) ∧ True) ∧
(¬ (x4 ≤ 1200) →
(q_Few y0 (decide (b1 = true)) s2 (decide False)) ∧ True))) ∧
(¬ ((Sl.len s2) > 400) →
(q_Few y0 (decide (b1 = true)) s2 (decide False)) ∧ True))))))))))))))))))))
def V_looks : Prop :=
(∀ y0 : ByteArray,
(∀ b1 : Bool,
(∀ s2 : Sl,
((Ranged s2 [some .i64, some .i64, some .i64, none, none, none, none]) →
(∀ x3 : Int,
((Rng .i64 x3) →
(∀ x4 : Int,
((Rng .i64 x4) →
(∀ x5 : Int,
((Rng .i64 x5) →
((p_looks y0 (decide (b1 = true)) s2 x3 x4 x5) →
(p_kLentTable y0 (decide (b1 = true)) s2) ∧
(∀ y6 : ByteArray,
(∀ b7 : Bool,
(∀ s8 : Sl,
((q_kLentTable y0 (decide (b1 = true)) s2 y6 (decide (b7 = true)) s8) →
(p_Look y6 (decide (b7 = true)) s8 x3 x5) ∧
(∀ b9 : Bool,
(∀ s10 : Sl,
((Ranged s10 [some .u16]) →
(∀ b11 : Bool,
(∀ s12 : Sl,
((Ranged s12 [some .u16]) →
(∀ x13 : Int,
((Rng .i64 x13) →
((q_Look y6 (decide (b7 = true)) s8 x3 x5 (decide (b9 = true)) s10 (decide (b11 = true)) s12 x13) →
(p_rLook y0 (decide (b1 = true)) s2 x3 x5) ∧
(∀ b14 : Bool,
(∀ s15 : Sl,
((Ranged s15 [some .u16]) →
(∀ b16 : Bool,
(∀ s17 : Sl,
((Ranged s17 [some .u16]) →
(∀ x18 : Int,
((Rng .i64 x18) →
((q_rLook y0 (decide (b1 = true)) s2 x3 x5 (decide (b14 = true)) s15 (decide (b16 = true)) s17 x18) →
(p_LookTwo y6 (decide (b7 = true)) s8 x3 x4 x5) ∧
(∀ b19 : Bool,
(∀ s20 : Sl,
((Ranged s20 [some .u16]) →
(∀ b21 : Bool,
(∀ s22 : Sl,
((Ranged s22 [some .u16]) →
(∀ x23 : Int,
((Rng .i64 x23) →
((q_LookTwo y6 (decide (b7 = true)) s8 x3 x4 x5 (decide (b19 = true)) s20 (decide (b21 = true)) s22 x23) →
(p_rLookTwo y0 (decide (b1 = true)) s2 x3 x4 x5) ∧
(∀ b24 : Bool,
(∀ s25 : Sl,
((Ranged s25 [some .u16]) →
(∀ b26 : Bool,
(∀ s27 : Sl,
((Ranged s27 [some .u16]) →
(∀ x28 : Int,
((Rng .i64 x28) →
((q_rLookTwo y0 (decide (b1 = true)) s2 x3 x4 x5 (decide (b24 = true)) s25 (decide (b26 = true)) s27 x28) →
(((x13 ≠ x18) →
(q_looks y0 (decide (b1 = true)) s2 x3 x4 x5 (decide False)) ∧ True) ∧
(¬ (x13 ≠ x18) →
(((x23 ≠ x28) →
(q_looks y0 (decide (b1 = true)) s2 x3 x4 x5 (decide False)) ∧ True) ∧
(¬ (x23 ≠ x28) →
(p_kKeptTable y6 (decide (b7 = true)) s8 y0 (decide (b1 = true)) s2) ∧
(∀ b29 : Bool,
((q_kKeptTable y6 (decide (b7 = true)) s8 y0 (decide (b1 = true)) s2 (decide (b29 = true))) →
(((¬ (b29 = true)) →
(q_looks y0 (decide (b1 = true)) s2 x3 x4 x5 (decide False)) ∧ True) ∧
(¬ (¬ (b29 = true)) →
(p_kSameFrac (decide (b9 = true)) s10 (decide (b11 = true)) s12 (decide (b14 = true)) s15 (decide (b16 = true)) s17) ∧
(∀ b30 : Bool,
((q_kSameFrac (decide (b9 = true)) s10 (decide (b11 = true)) s12 (decide (b14 = true)) s15 (decide (b16 = true)) s17 (decide (b30 = true))) →
(((b30 = true) →
(p_kSameFrac (decide (b19 = true)) s20 (decide (b21 = true)) s22 (decide (b24 = true)) s25 (decide (b26 = true)) s27) ∧
(∀ b31 : Bool,
((q_kSameFrac (decide (b19 = true)) s20 (decide (b21 = true)) s22 (decide (b24 = true)) s25 (decide (b26 = true)) s27 (decide (b31 = true))) →
(q_looks y0 (decide (b1 = true)) s2 x3 x4 x5 (decide (b31 = true))) ∧ True))) ∧
(¬ (b30 = true) →
(q_looks y0 (decide (b1 = true)) s2 x3 x4 x5 (decide False)) ∧ True)))))))))))))))))))))))))))))))))))))))))))))))))))))))))))))))
end Go.Sx.N
