/-
  The conditions of the functions. Conditions: none; printed by a program of our own.
-/
import Derived.Test.YtedajccdbdlaoaaGreatTaxSpec
set_option maxRecDepth 20000
namespace Go.Sx.N
def V_isAmount : Prop :=
(∀ x0 : Int,
((Rng .i64 x0) →
((p_isAmount x0) →
((((0 : Int) ≤ x0) →
(q_isAmount x0 (decide (x0 ≤ 1099511627776))) ∧ True) ∧
(¬ ((0 : Int) ≤ x0) →
(q_isAmount x0 (decide False)) ∧ True)))))
def V_validRate : Prop :=
(∀ b0 : Bool,
(∀ s1 : Sl,
((Ranged s1 [some .u16]) →
(∀ b2 : Bool,
(∀ s3 : Sl,
((Ranged s3 [some .u16]) →
((p_validRate (decide (b0 = true)) s1 (decide (b2 = true)) s3) →
(p_fValid (decide (b0 = true)) s1 (decide (b2 = true)) s3) ∧
(∀ b4 : Bool,
((q_fValid (decide (b0 = true)) s1 (decide (b2 = true)) s3 (decide (b4 = true))) →
(((¬ (b4 = true)) →
(q_validRate (decide (b0 = true)) s1 (decide (b2 = true)) s3 (decide False)) ∧ True) ∧
(¬ (¬ (b4 = true)) →
(((b0 = true) →
(q_validRate (decide (b0 = true)) s1 (decide (b2 = true)) s3 (decide False)) ∧ True) ∧
(¬ (b0 = true) →
(p_fFromInt 1) ∧
(∀ b5 : Bool,
(∀ s6 : Sl,
((Ranged s6 [some .u16]) →
(∀ b7 : Bool,
(∀ s8 : Sl,
((Ranged s8 [some .u16]) →
((q_fFromInt 1 (decide (b5 = true)) s6 (decide (b7 = true)) s8) →
(p_fCmp (decide (b0 = true)) s1 (decide (b2 = true)) s3 (decide (b5 = true)) s6 (decide (b7 = true)) s8) ∧
(∀ x9 : Int,
((Rng .i64 x9) →
((q_fCmp (decide (b0 = true)) s1 (decide (b2 = true)) s3 (decide (b5 = true)) s6 (decide (b7 = true)) s8 x9) →
(((x9 > 0) →
(q_validRate (decide (b0 = true)) s1 (decide (b2 = true)) s3 (decide False)) ∧ True) ∧
(¬ (x9 > 0) →
((Small s3) →
(Rng .i64 ((Sl.len s3) - 1)) ∧
(∃ (J10 : Int → Int → Prop) (M10 : Int → Int → Nat), J10 0 ((Sl.len s3) - 1) ∧
(∀ x11 : Int,
((Rng .i64 x11) →
(∀ x12 : Int,
((Rng .i64 x12) →
(J10 x11 x12 →
(((x12 ≥ 0) →
((0 : Int) ≤ 16) ∧
((0 : Int) ≤ x12) ∧
(x12 < (Sl.len s3)) ∧
((Rng .u16 (Sl.int s3 x12 0)) →
(Rng .i64 ((IntKind.wrap .i64 (shl .i64 x11 16)) + (Sl.int s3 x12 0))) ∧
(((((IntKind.wrap .i64 (shl .i64 x11 16)) + (Sl.int s3 x12 0)) > 1000000) →
(q_validRate (decide (b0 = true)) s1 (decide (b2 = true)) s3 (decide False)) ∧ True) ∧
(¬ (((IntKind.wrap .i64 (shl .i64 x11 16)) + (Sl.int s3 x12 0)) > 1000000) →
(Rng .i64 (x12 - 1)) ∧
(J10 ((IntKind.wrap .i64 (shl .i64 x11 16)) + (Sl.int s3 x12 0)) (x12 - 1) ∧ M10 ((IntKind.wrap .i64 (shl .i64 x11 16)) + (Sl.int s3 x12 0)) (x12 - 1) < M10 x11 x12))))) ∧
(¬ (x12 ≥ 0) →
(q_validRate (decide (b0 = true)) s1 (decide (b2 = true)) s3 (decide True)) ∧ True))))))))))))))))))))))))))))))))))
def V_tValid : Prop :=
(∀ s0 : Sl,
((Ranged s0 [some .i64, none, none, none, none]) →
((p_tValid s0) →
((Small s0) →
((((Sl.len s0) > 20) →
(q_tValid s0 (decide False)) ∧ True) ∧
(¬ ((Sl.len s0) > 20) →
((Small s0) →
(∃ (J1 : Int → Prop) (M1 : Int → Nat), J1 0 ∧
(∀ x2 : Int,
((Rng .i64 x2) →
(J1 x2 →
(((x2 < (Sl.len s0)) →
((0 : Int) ≤ x2) ∧
(x2 < (Sl.len s0)) ∧
((Rng .i64 (Sl.int s0 x2 0)) →
((Ranged (Sl.sub s0 x2 2) [some .u16]) →
((Ranged (Sl.sub s0 x2 4) [some .u16]) →
((((Sl.int s0 x2 0) < 0) →
(q_tValid s0 (decide False)) ∧ True) ∧
(¬ ((Sl.int s0 x2 0) < 0) →
((((Sl.int s0 x2 0) > 1099511627776) →
(q_tValid s0 (decide False)) ∧ True) ∧
(¬ ((Sl.int s0 x2 0) > 1099511627776) →
(p_validRate (decide (Sl.bool s0 x2 1 = true)) (Sl.sub s0 x2 2) (decide (Sl.bool s0 x2 3 = true)) (Sl.sub s0 x2 4)) ∧
(∀ b3 : Bool,
((q_validRate (decide (Sl.bool s0 x2 1 = true)) (Sl.sub s0 x2 2) (decide (Sl.bool s0 x2 3 = true)) (Sl.sub s0 x2 4) (decide (b3 = true))) →
(((¬ (b3 = true)) →
(q_tValid s0 (decide False)) ∧ True) ∧
(¬ (¬ (b3 = true)) →
(Rng .i64 (x2 + 1)) ∧
(J1 (x2 + 1) ∧ M1 (x2 + 1) < M1 x2))))))))))))) ∧
(¬ (x2 < (Sl.len s0)) →
(∃ (J3 : Int → Prop) (M3 : Int → Nat), J3 1 ∧
(∀ x4 : Int,
((Rng .i64 x4) →
(J3 x4 →
((Small s0) →
(((x4 < (Sl.len s0)) →
(Rng .i64 (x4 - 1)) ∧
((0 : Int) ≤ (x4 - 1)) ∧
((x4 - 1) < (Sl.len s0)) ∧
((0 : Int) ≤ x4) ∧
(x4 < (Sl.len s0)) ∧
((((Rng .i64 (Sl.int s0 (x4 - 1) 0)) →
((Ranged (Sl.sub s0 (x4 - 1) 2) [some .u16]) →
((Ranged (Sl.sub s0 (x4 - 1) 4) [some .u16]) →
((Rng .i64 (Sl.int s0 x4 0)) →
((Ranged (Sl.sub s0 x4 2) [some .u16]) →
((Ranged (Sl.sub s0 x4 4) [some .u16]) →
((((Sl.int s0 (x4 - 1) 0) < (Sl.int s0 x4 0)) →
(p_fCmp (decide (Sl.bool s0 (x4 - 1) 1 = true)) (Sl.sub s0 (x4 - 1) 2) (decide (Sl.bool s0 (x4 - 1) 3 = true)) (Sl.sub s0 (x4 - 1) 4) (decide (Sl.bool s0 x4 1 = true)) (Sl.sub s0 x4 2) (decide (Sl.bool s0 x4 3 = true)) (Sl.sub s0 x4 4)) ∧
(∀ x5 : Int,
((Rng .i64 x5) →
((q_fCmp (decide (Sl.bool s0 (x4 - 1) 1 = true)) (Sl.sub s0 (x4 - 1) 2) (decide (Sl.bool s0 (x4 - 1) 3 = true)) (Sl.sub s0 (x4 - 1) 4) (decide (Sl.bool s0 x4 1 = true)) (Sl.sub s0 x4 2) (decide (Sl.bool s0 x4 3 = true)) (Sl.sub s0 x4 4) x5) →
(((¬ (x5 ≤ 0)) →
(q_tValid s0 (decide False)) ∧ True) ∧
(¬ (¬ (x5 ≤ 0)) →
(Rng .i64 (x4 + 1)) ∧
(J3 (x4 + 1) ∧ M3 (x4 + 1) < M3 x4))))))) ∧
(¬ ((Sl.int s0 (x4 - 1) 0) < (Sl.int s0 x4 0)) →
(q_tValid s0 (decide False)) ∧ True))))))))) ∧
(((Rng .i64 (Sl.int s0 x4 0)) →
((Ranged (Sl.sub s0 x4 2) [some .u16]) →
((Ranged (Sl.sub s0 x4 4) [some .u16]) →
((Rng .i64 (Sl.int s0 (x4 - 1) 0)) →
((Ranged (Sl.sub s0 (x4 - 1) 2) [some .u16]) →
((Ranged (Sl.sub s0 (x4 - 1) 4) [some .u16]) →
((((Sl.int s0 (x4 - 1) 0) < (Sl.int s0 x4 0)) →
(p_fCmp (decide (Sl.bool s0 (x4 - 1) 1 = true)) (Sl.sub s0 (x4 - 1) 2) (decide (Sl.bool s0 (x4 - 1) 3 = true)) (Sl.sub s0 (x4 - 1) 4) (decide (Sl.bool s0 x4 1 = true)) (Sl.sub s0 x4 2) (decide (Sl.bool s0 x4 3 = true)) (Sl.sub s0 x4 4)) ∧
(∀ x5 : Int,
((Rng .i64 x5) →
((q_fCmp (decide (Sl.bool s0 (x4 - 1) 1 = true)) (Sl.sub s0 (x4 - 1) 2) (decide (Sl.bool s0 (x4 - 1) 3 = true)) (Sl.sub s0 (x4 - 1) 4) (decide (Sl.bool s0 x4 1 = true)) (Sl.sub s0 x4 2) (decide (Sl.bool s0 x4 3 = true)) (Sl.sub s0 x4 4) x5) →
(((¬ (x5 ≤ 0)) →
(q_tValid s0 (decide False)) ∧ True) ∧
(¬ (¬ (x5 ≤ 0)) →
(Rng .i64 (x4 + 1)) ∧
(J3 (x4 + 1) ∧ M3 (x4 + 1) < M3 x4))))))) ∧
(¬ ((Sl.int s0 (x4 - 1) 0) < (Sl.int s0 x4 0)) →
(q_tValid s0 (decide False)) ∧ True))))))))))) ∧
(¬ (x4 < (Sl.len s0)) →
(q_tValid s0 (decide True)) ∧ True))))))))))))))))))))
def V_validYears : Prop :=
(∀ s0 : Sl,
((Ranged s0 [some .i64, none]) →
((p_validYears s0) →
((Small s0) →
(∃ (J1 : Int → Prop) (M1 : Int → Nat), J1 0 ∧
(∀ x2 : Int,
((Rng .i64 x2) →
(J1 x2 →
(((x2 < (Sl.len s0)) →
((0 : Int) ≤ x2) ∧
(x2 < (Sl.len s0)) ∧
((Rng .i64 (Sl.int s0 x2 0)) →
((Ranged (Sl.sub s0 x2 1) [some .i64, none, none, none, none]) →
(p_tValid (Sl.sub s0 x2 1)) ∧
(∀ b3 : Bool,
((q_tValid (Sl.sub s0 x2 1) (decide (b3 = true))) →
(((¬ (b3 = true)) →
(q_validYears s0 (decide False)) ∧ True) ∧
(¬ (¬ (b3 = true)) →
(Rng .i64 (x2 + 1)) ∧
(J1 (x2 + 1) ∧ M1 (x2 + 1) < M1 x2)))))))) ∧
(¬ (x2 < (Sl.len s0)) →
(∃ (J3 : Int → Prop) (M3 : Int → Nat), J3 1 ∧
(∀ x4 : Int,
((Rng .i64 x4) →
(J3 x4 →
((Small s0) →
(((x4 < (Sl.len s0)) →
(Rng .i64 (x4 - 1)) ∧
((0 : Int) ≤ (x4 - 1)) ∧
((x4 - 1) < (Sl.len s0)) ∧
((0 : Int) ≤ x4) ∧
(x4 < (Sl.len s0)) ∧
((((Rng .i64 (Sl.int s0 (x4 - 1) 0)) →
((Ranged (Sl.sub s0 (x4 - 1) 1) [some .i64, none, none, none, none]) →
((Rng .i64 (Sl.int s0 x4 0)) →
((Ranged (Sl.sub s0 x4 1) [some .i64, none, none, none, none]) →
(((¬ ((Sl.int s0 (x4 - 1) 0) < (Sl.int s0 x4 0))) →
(q_validYears s0 (decide False)) ∧ True) ∧
(¬ (¬ ((Sl.int s0 (x4 - 1) 0) < (Sl.int s0 x4 0))) →
(Rng .i64 (x4 + 1)) ∧
(J3 (x4 + 1) ∧ M3 (x4 + 1) < M3 x4)))))))) ∧
(((Rng .i64 (Sl.int s0 x4 0)) →
((Ranged (Sl.sub s0 x4 1) [some .i64, none, none, none, none]) →
((Rng .i64 (Sl.int s0 (x4 - 1) 0)) →
((Ranged (Sl.sub s0 (x4 - 1) 1) [some .i64, none, none, none, none]) →
(((¬ ((Sl.int s0 (x4 - 1) 0) < (Sl.int s0 x4 0))) →
(q_validYears s0 (decide False)) ∧ True) ∧
(¬ (¬ ((Sl.int s0 (x4 - 1) 0) < (Sl.int s0 x4 0))) →
(Rng .i64 (x4 + 1)) ∧
(J3 (x4 + 1) ∧ M3 (x4 + 1) < M3 x4)))))))))) ∧
(¬ (x4 < (Sl.len s0)) →
(q_validYears s0 (decide True)) ∧ True)))))))))))))))))
def V_applying : Prop :=
(∀ s0 : Sl,
((Ranged s0 [some .i64, none]) →
(∀ x1 : Int,
((Rng .i64 x1) →
((p_applying s0 x1) →
((Small s0) →
(Rng .i64 ((Sl.len s0) - 1)) ∧
(∃ (J2 : Int → Prop) (M2 : Int → Nat), J2 ((Sl.len s0) - 1) ∧
(∀ x3 : Int,
((Rng .i64 x3) →
(J2 x3 →
(((x3 ≥ 0) →
((0 : Int) ≤ x3) ∧
(x3 < (Sl.len s0)) ∧
((Rng .i64 (Sl.int s0 x3 0)) →
((((Sl.int s0 x3 0) ≤ x1) →
((0 : Int) ≤ x3) ∧
(x3 < (Sl.len s0)) ∧
((Ranged (Sl.sub s0 x3 1) [some .i64, none, none, none, none]) →
(q_applying s0 x1 (Sl.sub s0 x3 1) (decide True)) ∧ True)) ∧
(¬ ((Sl.int s0 x3 0) ≤ x1) →
(Rng .i64 (x3 - 1)) ∧
(J2 (x3 - 1) ∧ M2 (x3 - 1) < M2 x3))))) ∧
(¬ (x3 ≥ 0) →
(q_applying s0 x1 Sl.nil (decide False)) ∧ True))))))))))))
def V_exact_0 (s0 : Sl) (x1 : Int) (x2 : Int) (J7 : Int → Bool → Sl → Bool → Sl → Bool → Sl → Bool → Sl → Int → Prop) (M7 : Int → Bool → Sl → Bool → Sl → Bool → Sl → Bool → Sl → Int → Nat) (x8 : Int) (b9 : Bool) (s10 : Sl) (b11 : Bool) (s12 : Sl) (b13 : Bool) (s14 : Sl) (b15 : Bool) (s16 : Sl) (x17 : Int) (b20 : Bool) (s21 : Sl) (b22 : Bool) (s23 : Sl) : Prop :=
(p_fMul (decide (b20 = true)) s21 (decide (b22 = true)) s23 (decide (Sl.bool s0 x8 1 = true)) (Sl.sub s0 x8 2) (decide (Sl.bool s0 x8 3 = true)) (Sl.sub s0 x8 4)) ∧
(∀ b100 : Bool,
(∀ s101 : Sl,
((Ranged s101 [some .u16]) →
(∀ b102 : Bool,
(∀ s103 : Sl,
((Ranged s103 [some .u16]) →
(∀ x104 : Int,
((Rng .i64 x104) →
((q_fMul (decide (b20 = true)) s21 (decide (b22 = true)) s23 (decide (Sl.bool s0 x8 1 = true)) (Sl.sub s0 x8 2) (decide (Sl.bool s0 x8 3 = true)) (Sl.sub s0 x8 4) (decide (b100 = true)) s101 (decide (b102 = true)) s103 x104) →
(∃ J105 : Int → Bool → Sl → Bool → Sl → Prop,
(((((x104 = 0) →
(p_fAdd (decide (b9 = true)) s10 (decide (b11 = true)) s12 (decide (b100 = true)) s101 (decide (b102 = true)) s103) ∧
(∀ b106 : Bool,
(∀ s107 : Sl,
((Ranged s107 [some .u16]) →
(∀ b108 : Bool,
(∀ s109 : Sl,
((Ranged s109 [some .u16]) →
(∀ x110 : Int,
((Rng .i64 x110) →
((q_fAdd (decide (b9 = true)) s10 (decide (b11 = true)) s12 (decide (b100 = true)) s101 (decide (b102 = true)) s103 (decide (b106 = true)) s107 (decide (b108 = true)) s109 x110) → J105 x110 (decide (b106 = true)) s107 (decide (b108 = true)) s109)))))))))) ∧
(¬ (x104 = 0) → J105 x104 (decide (b9 = true)) s10 (decide (b11 = true)) s12))) ∧
((∀ x106 : Int,
((Rng .i64 x106) →
(∀ b107 : Bool,
(∀ s108 : Sl,
((Ranged s108 [some .u16]) →
(∀ b109 : Bool,
(∀ s110 : Sl,
((Ranged s110 [some .u16]) →
(J105 x106 (decide (b107 = true)) s108 (decide (b109 = true)) s110 →
(((x106 ≠ 0) →
(q_exact s0 x1 x2 (decide False) Sl.nil (decide False) Sl.nil x106) ∧ True) ∧
(¬ (x106 ≠ 0) →
(Rng .i64 (x8 + 1)) ∧
(J7 (x8 + 1) (decide (b107 = true)) s108 (decide (b109 = true)) s110 (decide (b13 = true)) s14 (decide (b15 = true)) s16 x17 ∧ M7 (x8 + 1) (decide (b107 = true)) s108 (decide (b109 = true)) s110 (decide (b13 = true)) s14 (decide (b15 = true)) s16 x17 < M7 x8 (decide (b9 = true)) s10 (decide (b11 = true)) s12 (decide (b13 = true)) s14 (decide (b15 = true)) s16 x17))))))))))))))))))))))))
def V_exact : Prop :=
(∀ s0 : Sl,
((Ranged s0 [some .i64, none, none, none, none]) →
(∀ x1 : Int,
((Rng .i64 x1) →
(∀ x2 : Int,
((Rng .i64 x2) →
((p_exact s0 x1 x2) →
(p_fFromInt 0) ∧
(∀ b3 : Bool,
(∀ s4 : Sl,
((Ranged s4 [some .u16]) →
(∀ b5 : Bool,
(∀ s6 : Sl,
((Ranged s6 [some .u16]) →
((q_fFromInt 0 (decide (b3 = true)) s4 (decide (b5 = true)) s6) →
((Small s0) →
(∃ (J7 : Int → Bool → Sl → Bool → Sl → Bool → Sl → Bool → Sl → Int → Prop) (M7 : Int → Bool → Sl → Bool → Sl → Bool → Sl → Bool → Sl → Int → Nat), J7 0 (decide (b3 = true)) s4 (decide (b5 = true)) s6 (decide False) Sl.nil (decide False) Sl.nil 0 ∧
(∀ x8 : Int,
((Rng .i64 x8) →
(∀ b9 : Bool,
(∀ s10 : Sl,
((Ranged s10 [some .u16]) →
(∀ b11 : Bool,
(∀ s12 : Sl,
((Ranged s12 [some .u16]) →
(∀ b13 : Bool,
(∀ s14 : Sl,
((Ranged s14 [some .u16]) →
(∀ b15 : Bool,
(∀ s16 : Sl,
((Ranged s16 [some .u16]) →
(∀ x17 : Int,
((Rng .i64 x17) →
(J7 x8 (decide (b9 = true)) s10 (decide (b11 = true)) s12 (decide (b13 = true)) s14 (decide (b15 = true)) s16 x17 →
(((x8 < (Sl.len s0)) →
((0 : Int) ≤ x8) ∧
(x8 < (Sl.len s0)) ∧
((Rng .i64 (Sl.int s0 x8 0)) →
((Ranged (Sl.sub s0 x8 2) [some .u16]) →
((Ranged (Sl.sub s0 x8 4) [some .u16]) →
(Rng .i64 ((Sl.int s0 x8 0) * x1)) ∧
(Rng .i64 (x2 * 12)) ∧
(∃ J18 : Int → Prop,
(((Rng .i64 (x8 + 1)) ∧
((Small s0) →
((((x8 + 1) < (Sl.len s0)) →
(Rng .i64 (x8 + 1)) ∧
((0 : Int) ≤ (x8 + 1)) ∧
((x8 + 1) < (Sl.len s0)) ∧
((Rng .i64 (Sl.int s0 (x8 + 1) 0)) →
(Rng .i64 ((Sl.int s0 (x8 + 1) 0) * x1)) ∧ J18 (imin (x2 * 12) ((Sl.int s0 (x8 + 1) 0) * x1)))) ∧
(¬ ((x8 + 1) < (Sl.len s0)) → J18 (x2 * 12))))) ∧
((∀ x19 : Int,
((Rng .i64 x19) →
(J18 x19 →
(((x19 > ((Sl.int s0 x8 0) * x1)) →
(Rng .i64 (x19 - ((Sl.int s0 x8 0) * x1))) ∧
(((p_fFromInt (x19 - ((Sl.int s0 x8 0) * x1))) ∧
(∀ b20 : Bool,
(∀ s21 : Sl,
((Ranged s21 [some .u16]) →
(∀ b22 : Bool,
(∀ s23 : Sl,
((Ranged s23 [some .u16]) →
((q_fFromInt (x19 - ((Sl.int s0 x8 0) * x1)) (decide (b20 = true)) s21 (decide (b22 = true)) s23) →
(((V_exact_0 s0 x1 x2 J7 M7 x8 b9 s10 b11 s12 b13 s14 b15 s16 x17 b20 s21 b22 s23)) ∧
((V_exact_0 s0 x1 x2 J7 M7 x8 b9 s10 b11 s12 b13 s14 b15 s16 x17 b20 s21 b22 s23))))))))))) ∧
((p_fFromInt (x19 - ((Sl.int s0 x8 0) * x1))) ∧
(∀ b20 : Bool,
(∀ s21 : Sl,
((Ranged s21 [some .u16]) →
(∀ b22 : Bool,
(∀ s23 : Sl,
((Ranged s23 [some .u16]) →
((q_fFromInt (x19 - ((Sl.int s0 x8 0) * x1)) (decide (b20 = true)) s21 (decide (b22 = true)) s23) →
(V_exact_0 s0 x1 x2 J7 M7 x8 b9 s10 b11 s12 b13 s14 b15 s16 x17 b20 s21 b22 s23))))))))))) ∧
(¬ (x19 > ((Sl.int s0 x8 0) * x1)) →
(Rng .i64 (x8 + 1)) ∧
(J7 (x8 + 1) (decide (b9 = true)) s10 (decide (b11 = true)) s12 (decide (b13 = true)) s14 (decide (b15 = true)) s16 x17 ∧ M7 (x8 + 1) (decide (b9 = true)) s10 (decide (b11 = true)) s12 (decide (b13 = true)) s14 (decide (b15 = true)) s16 x17 < M7 x8 (decide (b9 = true)) s10 (decide (b11 = true)) s12 (decide (b13 = true)) s14 (decide (b15 = true)) s16 x17))))))))))))) ∧
(¬ (x8 < (Sl.len s0)) →
(p_fFromInt 12) ∧
(∀ b18 : Bool,
(∀ s19 : Sl,
((Ranged s19 [some .u16]) →
(∀ b20 : Bool,
(∀ s21 : Sl,
((Ranged s21 [some .u16]) →
((q_fFromInt 12 (decide (b18 = true)) s19 (decide (b20 = true)) s21) →
(p_fDiv (decide (b9 = true)) s10 (decide (b11 = true)) s12 (decide (b18 = true)) s19 (decide (b20 = true)) s21) ∧
(∀ b22 : Bool,
(∀ s23 : Sl,
((Ranged s23 [some .u16]) →
(∀ b24 : Bool,
(∀ s25 : Sl,
((Ranged s25 [some .u16]) →
(∀ x26 : Int,
((Rng .i64 x26) →
((q_fDiv (decide (b9 = true)) s10 (decide (b11 = true)) s12 (decide (b18 = true)) s19 (decide (b20 = true)) s21 (decide (b22 = true)) s23 (decide (b24 = true)) s25 x26) →
(q_exact s0 x1 x2 (decide (b22 = true)) s23 (decide (b24 = true)) s25 x26) ∧ True)))))))))))))))))))))))))))))))))))))))))))))))))))
def V_tTax : Prop :=
(∀ s0 : Sl,
((Ranged s0 [some .i64, none, none, none, none]) →
(∀ x1 : Int,
((Rng .i64 x1) →
((p_tTax s0 x1) →
(p_tValid s0) ∧
(∀ b2 : Bool,
((q_tValid s0 (decide (b2 = true))) →
(((¬ (b2 = true)) →
(q_tTax s0 x1 (decide False) Sl.nil (decide False) Sl.nil 2) ∧ True) ∧
(¬ (¬ (b2 = true)) →
(p_isAmount x1) ∧
(∀ b3 : Bool,
((q_isAmount x1 (decide (b3 = true))) →
(((¬ (b3 = true)) →
(q_tTax s0 x1 (decide False) Sl.nil (decide False) Sl.nil 2) ∧ True) ∧
(¬ (¬ (b3 = true)) →
(p_exact s0 12 x1) ∧
(∀ b4 : Bool,
(∀ s5 : Sl,
((Ranged s5 [some .u16]) →
(∀ b6 : Bool,
(∀ s7 : Sl,
((Ranged s7 [some .u16]) →
(∀ x8 : Int,
((Rng .i64 x8) →
((q_exact s0 12 x1 (decide (b4 = true)) s5 (decide (b6 = true)) s7 x8) →
(q_tTax s0 x1 (decide (b4 = true)) s5 (decide (b6 = true)) s7 x8) ∧ True))))))))))))))))))))))
def V_tDue : Prop :=
(∀ s0 : Sl,
((Ranged s0 [some .i64, none, none, none, none]) →
(∀ x1 : Int,
((Rng .i64 x1) →
(∀ x2 : Int,
((Rng .i64 x2) →
((p_tDue s0 x1 x2) →
(p_tValid s0) ∧
(∀ b3 : Bool,
((q_tValid s0 (decide (b3 = true))) →
(((¬ (b3 = true)) →
(q_tDue s0 x1 x2 0 2) ∧ True) ∧
(¬ (¬ (b3 = true)) →
(((x1 < 1) →
(q_tDue s0 x1 x2 0 2) ∧ True) ∧
(¬ (x1 < 1) →
(((x1 > 12) →
(q_tDue s0 x1 x2 0 2) ∧ True) ∧
(¬ (x1 > 12) →
(p_isAmount x2) ∧
(∀ b4 : Bool,
((q_isAmount x2 (decide (b4 = true))) →
(((¬ (b4 = true)) →
(q_tDue s0 x1 x2 0 2) ∧ True) ∧
(¬ (¬ (b4 = true)) →
(p_exact s0 x1 x2) ∧
(∀ b5 : Bool,
(∀ s6 : Sl,
((Ranged s6 [some .u16]) →
(∀ b7 : Bool,
(∀ s8 : Sl,
((Ranged s8 [some .u16]) →
(∀ x9 : Int,
((Rng .i64 x9) →
((q_exact s0 x1 x2 (decide (b5 = true)) s6 (decide (b7 = true)) s8 x9) →
(((x9 ≠ 0) →
(q_tDue s0 x1 x2 0 x9) ∧ True) ∧
(¬ (x9 ≠ 0) →
(((p_fFromInt 1) ∧
(∀ b10 : Bool,
(∀ s11 : Sl,
((Ranged s11 [some .u16]) →
(∀ b12 : Bool,
(∀ s13 : Sl,
((Ranged s13 [some .u16]) →
((q_fFromInt 1 (decide (b10 = true)) s11 (decide (b12 = true)) s13) →
(((p_fRound (decide (b5 = true)) s6 (decide (b7 = true)) s8 (decide (b10 = true)) s11 (decide (b12 = true)) s13 3) ∧
(∀ b14 : Bool,
(∀ s15 : Sl,
((Ranged s15 [some .u16]) →
(∀ b16 : Bool,
(∀ s17 : Sl,
((Ranged s17 [some .u16]) →
(∀ x18 : Int,
((Rng .i64 x18) →
((q_fRound (decide (b5 = true)) s6 (decide (b7 = true)) s8 (decide (b10 = true)) s11 (decide (b12 = true)) s13 3 (decide (b14 = true)) s15 (decide (b16 = true)) s17 x18) →
(((x18 ≠ 0) →
(q_tDue s0 x1 x2 0 x18) ∧ True) ∧
(¬ (x18 ≠ 0) →
(p_fInt (decide (b14 = true)) s15 (decide (b16 = true)) s17) ∧
(∀ x19 : Int,
((Rng .i64 x19) →
(∀ x20 : Int,
((Rng .i64 x20) →
((q_fInt (decide (b14 = true)) s15 (decide (b16 = true)) s17 x19 x20) →
(q_tDue s0 x1 x2 x19 x20) ∧ True))))))))))))))))) ∧
((p_fRound (decide (b5 = true)) s6 (decide (b7 = true)) s8 (decide (b10 = true)) s11 (decide (b12 = true)) s13 3) ∧
(∀ b14 : Bool,
(∀ s15 : Sl,
((Ranged s15 [some .u16]) →
(∀ b16 : Bool,
(∀ s17 : Sl,
((Ranged s17 [some .u16]) →
(∀ x18 : Int,
((Rng .i64 x18) →
((q_fRound (decide (b5 = true)) s6 (decide (b7 = true)) s8 (decide (b10 = true)) s11 (decide (b12 = true)) s13 3 (decide (b14 = true)) s15 (decide (b16 = true)) s17 x18) →
(((x18 ≠ 0) →
(q_tDue s0 x1 x2 0 x18) ∧ True) ∧
(¬ (x18 ≠ 0) →
(p_fInt (decide (b14 = true)) s15 (decide (b16 = true)) s17) ∧
(∀ x19 : Int,
((Rng .i64 x19) →
(∀ x20 : Int,
((Rng .i64 x20) →
((q_fInt (decide (b14 = true)) s15 (decide (b16 = true)) s17 x19 x20) →
(q_tDue s0 x1 x2 x19 x20) ∧ True)))))))))))))))))))))))))) ∧
((p_fFromInt 1) ∧
(∀ b10 : Bool,
(∀ s11 : Sl,
((Ranged s11 [some .u16]) →
(∀ b12 : Bool,
(∀ s13 : Sl,
((Ranged s13 [some .u16]) →
((q_fFromInt 1 (decide (b10 = true)) s11 (decide (b12 = true)) s13) →
(p_fRound (decide (b5 = true)) s6 (decide (b7 = true)) s8 (decide (b10 = true)) s11 (decide (b12 = true)) s13 3) ∧
(∀ b14 : Bool,
(∀ s15 : Sl,
((Ranged s15 [some .u16]) →
(∀ b16 : Bool,
(∀ s17 : Sl,
((Ranged s17 [some .u16]) →
(∀ x18 : Int,
((Rng .i64 x18) →
((q_fRound (decide (b5 = true)) s6 (decide (b7 = true)) s8 (decide (b10 = true)) s11 (decide (b12 = true)) s13 3 (decide (b14 = true)) s15 (decide (b16 = true)) s17 x18) →
(((x18 ≠ 0) →
(q_tDue s0 x1 x2 0 x18) ∧ True) ∧
(¬ (x18 ≠ 0) →
(p_fInt (decide (b14 = true)) s15 (decide (b16 = true)) s17) ∧
(∀ x19 : Int,
((Rng .i64 x19) →
(∀ x20 : Int,
((Rng .i64 x20) →
((q_fInt (decide (b14 = true)) s15 (decide (b16 = true)) s17 x19 x20) →
(q_tDue s0 x1 x2 x19 x20) ∧ True)))))))))))))))))))))))))))))))))))))))))))))))))))))))
def V_ownFrac : Prop :=
(∀ b0 : Bool,
(∀ s1 : Sl,
((Ranged s1 [some .u16]) →
(∀ b2 : Bool,
(∀ s3 : Sl,
((Ranged s3 [some .u16]) →
((p_ownFrac (decide (b0 = true)) s1 (decide (b2 = true)) s3) →
((((Sl.len Sl.nil) + (Sl.len s1)) * 2) ≤ 140737488355328) ∧
((((Sl.len Sl.nil) + (Sl.len s3)) * 2) ≤ 140737488355328) ∧
(q_ownFrac (decide (b0 = true)) s1 (decide (b2 = true)) s3 (decide (b0 = true)) (Sl.app Sl.nil s1) (decide (b2 = true)) (Sl.app Sl.nil s3)) ∧ True)))))))
def V_tScale : Prop :=
(∀ s0 : Sl,
((Ranged s0 [some .i64, none]) →
(∀ x1 : Int,
((Rng .i64 x1) →
((p_tScale s0 x1) →
(p_validYears s0) ∧
(∀ b2 : Bool,
((q_validYears s0 (decide (b2 = true))) →
(((¬ (b2 = true)) →
(q_tScale s0 x1 Sl.nil 2) ∧ True) ∧
(¬ (¬ (b2 = true)) →
(p_applying s0 x1) ∧
(∀ s3 : Sl,
((Ranged s3 [some .i64, none, none, none, none]) →
(∀ b4 : Bool,
((q_applying s0 x1 s3 (decide (b4 = true))) →
(((¬ (b4 = true)) →
(q_tScale s0 x1 Sl.nil 6) ∧ True) ∧
(¬ (¬ (b4 = true)) →
((Small s3) →
((0 : Int) ≤ (Sl.len s3)) ∧
((Sl.len s3) ≤ (Sl.len s3)) ∧
(((Sl.len s3) * 72) ≤ 140737488355328) ∧
((Small s3) →
(∃ (J5 : Int → Sl → Prop) (M5 : Int → Sl → Nat), J5 0 (Sl.rep (Sl.len s3) [(.int 0), (.bool (decide False)), (Sl.d Sl.nil), (.bool (decide False)), (Sl.d Sl.nil)]) ∧
(∀ x6 : Int,
((Rng .i64 x6) →
(∀ s7 : Sl,
((Ranged s7 [some .i64, none, none, none, none]) →
(J5 x6 s7 →
(((x6 < (Sl.len s3)) →
((0 : Int) ≤ x6) ∧
(x6 < (Sl.len s3)) ∧
((Rng .i64 (Sl.int s3 x6 0)) →
((Ranged (Sl.sub s3 x6 2) [some .u16]) →
((Ranged (Sl.sub s3 x6 4) [some .u16]) →
(p_ownFrac (decide (Sl.bool s3 x6 1 = true)) (Sl.sub s3 x6 2) (decide (Sl.bool s3 x6 3 = true)) (Sl.sub s3 x6 4)) ∧
(∀ b8 : Bool,
(∀ s9 : Sl,
((Ranged s9 [some .u16]) →
(∀ b10 : Bool,
(∀ s11 : Sl,
((Ranged s11 [some .u16]) →
((q_ownFrac (decide (Sl.bool s3 x6 1 = true)) (Sl.sub s3 x6 2) (decide (Sl.bool s3 x6 3 = true)) (Sl.sub s3 x6 4) (decide (b8 = true)) s9 (decide (b10 = true)) s11) →
((0 : Int) ≤ x6) ∧
(x6 < (Sl.len s7)) ∧
(Rng .i64 (x6 + 1)) ∧
(J5 (x6 + 1) (Sl.upd s7 x6 0 [(.int (Sl.int s3 x6 0)), (.bool (decide (b8 = true))), (Sl.d s9), (.bool (decide (b10 = true))), (Sl.d s11)]) ∧ M5 (x6 + 1) (Sl.upd s7 x6 0 [(.int (Sl.int s3 x6 0)), (.bool (decide (b8 = true))), (Sl.d s9), (.bool (decide (b10 = true))), (Sl.d s11)]) < M5 x6 s7)))))))))))) ∧
(¬ (x6 < (Sl.len s3)) →
(q_tScale s0 x1 s7 0) ∧ True)))))))))))))))))))))))))
def V_tWithhold : Prop :=
(∀ s0 : Sl,
((Ranged s0 [some .i64, none]) →
(∀ x1 : Int,
((Rng .i64 x1) →
(∀ x2 : Int,
((Rng .i64 x2) →
(∀ x3 : Int,
((Rng .i64 x3) →
(∀ x4 : Int,
((Rng .i64 x4) →
(∀ x5 : Int,
((Rng .i64 x5) →
((p_tWithhold s0 x1 x2 x3 x4 x5) →
(p_validYears s0) ∧
(∀ b6 : Bool,
((q_validYears s0 (decide (b6 = true))) →
(((¬ (b6 = true)) →
(q_tWithhold s0 x1 x2 x3 x4 x5 0 0 0 0 2) ∧ True) ∧
(¬ (¬ (b6 = true)) →
(((x1 < 0) →
(q_tWithhold s0 x1 x2 x3 x4 x5 0 0 0 0 2) ∧ True) ∧
(¬ (x1 < 0) →
(((x1 > 2153) →
(q_tWithhold s0 x1 x2 x3 x4 x5 0 0 0 0 2) ∧ True) ∧
(¬ (x1 > 2153) →
(p_isAmount x2) ∧
(∀ b7 : Bool,
((q_isAmount x2 (decide (b7 = true))) →
(((¬ (b7 = true)) →
(q_tWithhold s0 x1 x2 x3 x4 x5 0 0 0 0 2) ∧ True) ∧
(¬ (¬ (b7 = true)) →
(((x3 < (-1099511627776)) →
(q_tWithhold s0 x1 x2 x3 x4 x5 0 0 0 0 2) ∧ True) ∧
(¬ (x3 < (-1099511627776)) →
(((x3 > 1099511627776) →
(q_tWithhold s0 x1 x2 x3 x4 x5 0 0 0 0 2) ∧ True) ∧
(¬ (x3 > 1099511627776) →
(((x4 < x1) →
(q_tWithhold s0 x1 x2 x3 x4 x5 0 0 0 0 2) ∧ True) ∧
(¬ (x4 < x1) →
(((x4 > 2153) →
(q_tWithhold s0 x1 x2 x3 x4 x5 0 0 0 0 2) ∧ True) ∧
(¬ (x4 > 2153) →
(p_isAmount x5) ∧
(∀ b8 : Bool,
((q_isAmount x5 (decide (b8 = true))) →
(((¬ (b8 = true)) →
(q_tWithhold s0 x1 x2 x3 x4 x5 0 0 0 0 2) ∧ True) ∧
(¬ (¬ (b8 = true)) →
((12 : Int) ≠ 0) ∧
(Rng .i64 (Int.tdiv x4 12)) ∧
(Rng .i64 (1900 + (Int.tdiv x4 12))) ∧
(p_applying s0 (1900 + (Int.tdiv x4 12))) ∧
(∀ s9 : Sl,
((Ranged s9 [some .i64, none, none, none, none]) →
(∀ b10 : Bool,
((q_applying s0 (1900 + (Int.tdiv x4 12)) s9 (decide (b10 = true))) →
(((¬ (b10 = true)) →
(q_tWithhold s0 x1 x2 x3 x4 x5 0 0 0 0 6) ∧ True) ∧
(¬ (¬ (b10 = true)) →
((12 : Int) ≠ 0) ∧
(Rng .i64 (Int.tdiv x1 12)) ∧
((12 : Int) ≠ 0) ∧
(Rng .i64 (Int.tdiv x4 12)) ∧
((((Int.tdiv x1 12) ≠ (Int.tdiv x4 12)) →
(Rng .i64 (0 + x5)) ∧
((((0 + x5) > 1099511627776) →
(q_tWithhold s0 x1 x2 x3 x4 x5 0 0 0 0 3) ∧ True) ∧
(¬ ((0 + x5) > 1099511627776) →
((12 : Int) ≠ 0) ∧
(Rng .i64 (Int.tmod x4 12)) ∧
(Rng .i64 ((Int.tmod x4 12) + 1)) ∧
(p_tDue s9 ((Int.tmod x4 12) + 1) (0 + x5)) ∧
(∀ x11 : Int,
((Rng .i64 x11) →
(∀ x12 : Int,
((Rng .i64 x12) →
((q_tDue s9 ((Int.tmod x4 12) + 1) (0 + x5) x11 x12) →
(((x12 ≠ 0) →
(q_tWithhold s0 x1 x2 x3 x4 x5 0 0 0 0 x12) ∧ True) ∧
(¬ (x12 ≠ 0) →
(Rng .i64 (x11 - 0)) ∧
(q_tWithhold s0 x1 x2 x3 x4 x5 (x11 - 0) x4 (0 + x5) x11 0) ∧ True)))))))))) ∧
(¬ ((Int.tdiv x1 12) ≠ (Int.tdiv x4 12)) →
(Rng .i64 (x2 + x5)) ∧
((((x2 + x5) > 1099511627776) →
(q_tWithhold s0 x1 x2 x3 x4 x5 0 0 0 0 3) ∧ True) ∧
(¬ ((x2 + x5) > 1099511627776) →
((12 : Int) ≠ 0) ∧
(Rng .i64 (Int.tmod x4 12)) ∧
(Rng .i64 ((Int.tmod x4 12) + 1)) ∧
(p_tDue s9 ((Int.tmod x4 12) + 1) (x2 + x5)) ∧
(∀ x11 : Int,
((Rng .i64 x11) →
(∀ x12 : Int,
((Rng .i64 x12) →
((q_tDue s9 ((Int.tmod x4 12) + 1) (x2 + x5) x11 x12) →
(((x12 ≠ 0) →
(q_tWithhold s0 x1 x2 x3 x4 x5 0 0 0 0 x12) ∧ True) ∧
(¬ (x12 ≠ 0) →
(Rng .i64 (x11 - x3)) ∧
(q_tWithhold s0 x1 x2 x3 x4 x5 (x11 - x3) x4 (x2 + x5) x11 0) ∧ True))))))))))))))))))))))))))))))))))))))))))))))))))))))
end Go.Sx.N
