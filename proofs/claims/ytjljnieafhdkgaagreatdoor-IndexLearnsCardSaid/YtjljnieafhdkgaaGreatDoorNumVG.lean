/-
  The conditions of the functions. Conditions: none; printed by a program of our own.
-/
import Derived.Test.YtjljnieafhdkgaaGreatDoorTabSpec
set_option maxRecDepth 20000
namespace Go.Sx.N
def V_kWhole : Prop :=
(∀ x0 : Int,
((Rng .i64 x0) →
((p_kWhole x0) →
(∃ J1 : Int → Prop,
(((((x0 < 0) → J1 (IntKind.wrap .u64 (0 - (IntKind.wrap .u64 x0)))) ∧
(¬ (x0 < 0) → J1 (IntKind.wrap .u64 x0)))) ∧
((∀ x2 : Int,
((Rng .u64 x2) →
(J1 x2 →
(∃ (J3 : Int → Bool → Sl → Prop) (M3 : Int → Bool → Sl → Nat), J3 x2 (decide (x0 < 0)) Sl.nil ∧
(∀ x4 : Int,
((Rng .u64 x4) →
(∀ b5 : Bool,
(∀ s6 : Sl,
((Ranged s6 [some .u16]) →
(J3 x4 (decide (b5 = true)) s6 →
(((x4 > 0) →
((((Sl.len s6) + (Sl.len (Sl.lit [[(.int (IntKind.wrap .u16 x4))]]))) * 2) ≤ 140737488355328) ∧
((0 : Int) ≤ 16) ∧
(Rng .u64 (shr .u64 x4 16)) ∧
(J3 (shr .u64 x4 16) (decide (b5 = true)) (Sl.app s6 (Sl.lit [[(.int (IntKind.wrap .u16 x4))]])) ∧ M3 (shr .u64 x4 16) (decide (b5 = true)) (Sl.app s6 (Sl.lit [[(.int (IntKind.wrap .u16 x4))]])) < M3 x4 (decide (b5 = true)) s6)) ∧
(¬ (x4 > 0) →
(q_kWhole x0 (decide (b5 = true)) s6) ∧ True))))))))))))))))))
def V_kFrac : Prop :=
(∀ x0 : Int,
((Rng .i64 x0) →
(∀ x1 : Int,
((Rng .i64 x1) →
((p_kFrac x0 x1) →
(((x1 < 1) →
(p_kWhole 1) ∧
(∀ b2 : Bool,
(∀ s3 : Sl,
((Ranged s3 [some .u16]) →
((q_kWhole 1 (decide (b2 = true)) s3) →
(q_kFrac x0 x1 (decide False) Sl.nil (decide (b2 = true)) s3) ∧ True))))) ∧
(¬ (x1 < 1) →
(((x0 = 0) →
(p_kWhole 1) ∧
(∀ b2 : Bool,
(∀ s3 : Sl,
((Ranged s3 [some .u16]) →
((q_kWhole 1 (decide (b2 = true)) s3) →
(q_kFrac x0 x1 (decide False) Sl.nil (decide (b2 = true)) s3) ∧ True))))) ∧
(¬ (x0 = 0) →
(∃ J2 : Int → Prop,
(((((x0 < 0) → J2 (IntKind.wrap .u64 (0 - (IntKind.wrap .u64 x0)))) ∧
(¬ (x0 < 0) → J2 (IntKind.wrap .u64 x0)))) ∧
((∀ x3 : Int,
((Rng .u64 x3) →
(J2 x3 →
(∃ (J4 : Int → Int → Prop) (M4 : Int → Int → Nat), J4 x3 (IntKind.wrap .u64 x1) ∧
(∀ x5 : Int,
((Rng .u64 x5) →
(∀ x6 : Int,
((Rng .u64 x6) →
(J4 x5 x6 →
(((x6 > 0) →
(x6 ≠ 0) ∧
(Rng .u64 (Int.tmod x5 x6)) ∧
(J4 x6 (Int.tmod x5 x6) ∧ M4 x6 (Int.tmod x5 x6) < M4 x5 x6)) ∧
(¬ (x6 > 0) →
((IntKind.wrap .i64 x5) ≠ 0) ∧
(Rng .i64 (Int.tdiv x0 (IntKind.wrap .i64 x5))) ∧
((IntKind.wrap .i64 x5) ≠ 0) ∧
(Rng .i64 (Int.tdiv x1 (IntKind.wrap .i64 x5))) ∧
(p_kWhole (Int.tdiv x0 (IntKind.wrap .i64 x5))) ∧
(∀ b7 : Bool,
(∀ s8 : Sl,
((Ranged s8 [some .u16]) →
((q_kWhole (Int.tdiv x0 (IntKind.wrap .i64 x5)) (decide (b7 = true)) s8) →
(p_kWhole (Int.tdiv x1 (IntKind.wrap .i64 x5))) ∧
(∀ b9 : Bool,
(∀ s10 : Sl,
((Ranged s10 [some .u16]) →
((q_kWhole (Int.tdiv x1 (IntKind.wrap .i64 x5)) (decide (b9 = true)) s10) →
(q_kFrac x0 x1 (decide (b7 = true)) s8 (decide (b9 = true)) s10) ∧ True)))))))))))))))))))))))))))))))
def V_kLimbs : Prop :=
(∀ b0 : Bool,
(∀ s1 : Sl,
((Ranged s1 [some .u16]) →
(∀ b2 : Bool,
(∀ s3 : Sl,
((Ranged s3 [some .u16]) →
((p_kLimbs (decide (b0 = true)) s1 (decide (b2 = true)) s3) →
((Small s1) →
((Small s3) →
(Rng .i64 ((Sl.len s1) + (Sl.len s3))) ∧
(q_kLimbs (decide (b0 = true)) s1 (decide (b2 = true)) s3 ((Sl.len s1) + (Sl.len s3))) ∧ True)))))))))
def V_cmpI : Prop :=
(∀ x0 : Int,
((Rng .i64 x0) →
(∀ x1 : Int,
((Rng .i64 x1) →
((p_cmpI x0 x1) →
(((x0 ≠ x0) →
(((x1 ≠ x1) →
(q_cmpI x0 x1 0) ∧ True) ∧
(¬ (x1 ≠ x1) →
(q_cmpI x0 x1 (-1)) ∧ True))) ∧
(¬ (x0 ≠ x0) →
(((x1 ≠ x1) →
(q_cmpI x0 x1 1) ∧ True) ∧
(¬ (x1 ≠ x1) →
(((x0 < x1) →
(q_cmpI x0 x1 (-1)) ∧ True) ∧
(¬ (x0 < x1) →
(((x0 > x1) →
(q_cmpI x0 x1 1) ∧ True) ∧
(¬ (x0 > x1) →
(q_cmpI x0 x1 0) ∧ True)))))))))))))
def V_cmpOr : Prop :=
(∀ s0 : Sl,
((Ranged s0 [some .i64]) →
((p_cmpOr s0) →
((Small s0) →
(∃ (J1 : Int → Prop) (M1 : Int → Nat), J1 0 ∧
(∀ x2 : Int,
((Rng .i64 x2) →
(J1 x2 →
(((x2 < (Sl.len s0)) →
((0 : Int) ≤ x2) ∧
(x2 < (Sl.len s0)) ∧
((Rng .i64 (Sl.int s0 x2 0)) →
((((Sl.int s0 x2 0) ≠ 0) →
(q_cmpOr s0 (Sl.int s0 x2 0)) ∧ True) ∧
(¬ ((Sl.int s0 x2 0) ≠ 0) →
(Rng .i64 (x2 + 1)) ∧
(J1 (x2 + 1) ∧ M1 (x2 + 1) < M1 x2))))) ∧
(¬ (x2 < (Sl.len s0)) →
(q_cmpOr s0 0) ∧ True))))))))))
def V_tCompare : Prop :=
(∀ x0 : Int,
((Rng .i64 x0) →
(∀ x1 : Int,
((Rng .i64 x1) →
(∀ x2 : Int,
((Rng .i64 x2) →
(∀ b3 : Bool,
(∀ s4 : Sl,
((Ranged s4 [some .u16]) →
(∀ b5 : Bool,
(∀ s6 : Sl,
((Ranged s6 [some .u16]) →
(∀ x7 : Int,
((Rng .i64 x7) →
(∀ x8 : Int,
((Rng .i64 x8) →
(∀ x9 : Int,
((Rng .i64 x9) →
(∀ b10 : Bool,
(∀ s11 : Sl,
((Ranged s11 [some .u16]) →
(∀ b12 : Bool,
(∀ s13 : Sl,
((Ranged s13 [some .u16]) →
((p_tCompare x0 x1 x2 (decide (b3 = true)) s4 (decide (b5 = true)) s6 x7 x8 x9 (decide (b10 = true)) s11 (decide (b12 = true)) s13) →
(p_cmpI x0 x7) ∧
(∀ x14 : Int,
((Rng .i64 x14) →
((q_cmpI x0 x7 x14) →
(p_cmpI x1 x8) ∧
(∀ x15 : Int,
((Rng .i64 x15) →
((q_cmpI x1 x8 x15) →
(p_cmpI x2 x9) ∧
(∀ x16 : Int,
((Rng .i64 x16) →
((q_cmpI x2 x9 x16) →
(p_cmpOr (Sl.lit [[(.int x14)], [(.int x15)], [(.int x16)]])) ∧
(∀ x17 : Int,
((Rng .i64 x17) →
((q_cmpOr (Sl.lit [[(.int x14)], [(.int x15)], [(.int x16)]]) x17) →
(q_tCompare x0 x1 x2 (decide (b3 = true)) s4 (decide (b5 = true)) s6 x7 x8 x9 (decide (b10 = true)) s11 (decide (b12 = true)) s13 x17) ∧ True)))))))))))))))))))))))))))))))))))))
def V_Right : Prop :=
(∀ b0 : Bool,
(∀ x1 : Int,
((Rng .i64 x1) →
(∀ x2 : Int,
((Rng .i64 x2) →
(∀ x3 : Int,
((Rng .i64 x3) →
(∀ b4 : Bool,
(∀ s5 : Sl,
((Ranged s5 [some .u16]) →
(∀ b6 : Bool,
(∀ s7 : Sl,
((Ranged s7 [some .u16]) →
((p_Right (decide (b0 = true)) x1 x2 x3 (decide (b4 = true)) s5 (decide (b6 = true)) s7) →
(∃ (J8 : Int → Prop) (M8 : Int → Nat), J8 0 ∧
(∀ x9 : Int,
((Rng .i64 x9) →
(J8 x9 →
(((x9 < 2) →
((0 : Int) ≤ x9) ∧
(x9 < 2) ∧
(((x9 = 0) →
(((x1 < (-2147483648)) →
(q_Right (decide (b0 = true)) x1 x2 x3 (decide (b4 = true)) s5 (decide (b6 = true)) s7 (decide False)) ∧ True) ∧
(¬ (x1 < (-2147483648)) →
(((x1 > 2147483647) →
(q_Right (decide (b0 = true)) x1 x2 x3 (decide (b4 = true)) s5 (decide (b6 = true)) s7 (decide False)) ∧ True) ∧
(¬ (x1 > 2147483647) →
(Rng .i64 (x9 + 1)) ∧
(J8 (x9 + 1) ∧ M8 (x9 + 1) < M8 x9)))))) ∧
(¬ (x9 = 0) →
(((x2 < (-2147483648)) →
(q_Right (decide (b0 = true)) x1 x2 x3 (decide (b4 = true)) s5 (decide (b6 = true)) s7 (decide False)) ∧ True) ∧
(¬ (x2 < (-2147483648)) →
(((x2 > 2147483647) →
(q_Right (decide (b0 = true)) x1 x2 x3 (decide (b4 = true)) s5 (decide (b6 = true)) s7 (decide False)) ∧ True) ∧
(¬ (x2 > 2147483647) →
(Rng .i64 (x9 + 1)) ∧
(J8 (x9 + 1) ∧ M8 (x9 + 1) < M8 x9)))))))) ∧
(¬ (x9 < 2) →
(((b0 = true) →
((((0 : Int) ≤ x3) →
(((x3 < 65536) →
(p_fValid (decide (b4 = true)) s5 (decide (b6 = true)) s7) ∧
(∀ b10 : Bool,
((q_fValid (decide (b4 = true)) s5 (decide (b6 = true)) s7 (decide (b10 = true))) →
(q_Right (decide (b0 = true)) x1 x2 x3 (decide (b4 = true)) s5 (decide (b6 = true)) s7 (decide (b10 = true))) ∧ True))) ∧
(¬ (x3 < 65536) →
(q_Right (decide (b0 = true)) x1 x2 x3 (decide (b4 = true)) s5 (decide (b6 = true)) s7 (decide False)) ∧ True))) ∧
(¬ ((0 : Int) ≤ x3) →
(q_Right (decide (b0 = true)) x1 x2 x3 (decide (b4 = true)) s5 (decide (b6 = true)) s7 (decide False)) ∧ True))) ∧
(¬ (b0 = true) →
(((x2 = 0) →
((((0 : Int) ≤ x3) →
(((x3 < 65536) →
(p_fValid (decide (b4 = true)) s5 (decide (b6 = true)) s7) ∧
(∀ b10 : Bool,
((q_fValid (decide (b4 = true)) s5 (decide (b6 = true)) s7 (decide (b10 = true))) →
(q_Right (decide (b0 = true)) x1 x2 x3 (decide (b4 = true)) s5 (decide (b6 = true)) s7 (decide (b10 = true))) ∧ True))) ∧
(¬ (x3 < 65536) →
(q_Right (decide (b0 = true)) x1 x2 x3 (decide (b4 = true)) s5 (decide (b6 = true)) s7 (decide False)) ∧ True))) ∧
(¬ ((0 : Int) ≤ x3) →
(q_Right (decide (b0 = true)) x1 x2 x3 (decide (b4 = true)) s5 (decide (b6 = true)) s7 (decide False)) ∧ True))) ∧
(¬ (x2 = 0) →
(q_Right (decide (b0 = true)) x1 x2 x3 (decide (b4 = true)) s5 (decide (b6 = true)) s7 (decide False)) ∧ True))))))))))))))))))))))))
def V_tValid : Prop :=
(∀ y0 : ByteArray,
(∀ b1 : Bool,
(∀ s2 : Sl,
((Ranged s2 [some .i64, some .i64, some .i64, none, none, none, none]) →
((p_tValid y0 (decide (b1 = true)) s2) →
(Rng .i64 (ylen y0)) ∧
((((ylen y0) < 1) →
(q_tValid y0 (decide (b1 = true)) s2 (decide False)) ∧ True) ∧
(¬ ((ylen y0) < 1) →
(Rng .i64 (ylen y0)) ∧
((((ylen y0) > 24) →
(q_tValid y0 (decide (b1 = true)) s2 (decide False)) ∧ True) ∧
(¬ ((ylen y0) > 24) →
((Small s2) →
((((Sl.len s2) > 400) →
(q_tValid y0 (decide (b1 = true)) s2 (decide False)) ∧ True) ∧
(¬ ((Sl.len s2) > 400) →
((Small s2) →
(Rng .i64 ((Sl.len s2) - 1)) ∧
(∃ (J3 : Int → Prop) (M3 : Int → Nat), J3 ((Sl.len s2) - 1) ∧
(∀ x4 : Int,
((Rng .i64 x4) →
(J3 x4 →
(((x4 > 0) →
((0 : Int) ≤ x4) ∧
(x4 < (Sl.len s2)) ∧
(Rng .i64 (x4 - 1)) ∧
((0 : Int) ≤ (x4 - 1)) ∧
((x4 - 1) < (Sl.len s2)) ∧
((((Rng .i64 (Sl.int s2 x4 0)) →
((Rng .i64 (Sl.int s2 x4 1)) →
((Rng .i64 (Sl.int s2 x4 2)) →
((Ranged (Sl.sub s2 x4 4) [some .u16]) →
((Ranged (Sl.sub s2 x4 6) [some .u16]) →
((Rng .i64 (Sl.int s2 (x4 - 1) 0)) →
((Rng .i64 (Sl.int s2 (x4 - 1) 1)) →
((Rng .i64 (Sl.int s2 (x4 - 1) 2)) →
((Ranged (Sl.sub s2 (x4 - 1) 4) [some .u16]) →
((Ranged (Sl.sub s2 (x4 - 1) 6) [some .u16]) →
(p_tCompare (Sl.int s2 x4 0) (Sl.int s2 x4 1) (Sl.int s2 x4 2) (decide (Sl.bool s2 x4 3 = true)) (Sl.sub s2 x4 4) (decide (Sl.bool s2 x4 5 = true)) (Sl.sub s2 x4 6) (Sl.int s2 (x4 - 1) 0) (Sl.int s2 (x4 - 1) 1) (Sl.int s2 (x4 - 1) 2) (decide (Sl.bool s2 (x4 - 1) 3 = true)) (Sl.sub s2 (x4 - 1) 4) (decide (Sl.bool s2 (x4 - 1) 5 = true)) (Sl.sub s2 (x4 - 1) 6)) ∧
(∀ x5 : Int,
((Rng .i64 x5) →
((q_tCompare (Sl.int s2 x4 0) (Sl.int s2 x4 1) (Sl.int s2 x4 2) (decide (Sl.bool s2 x4 3 = true)) (Sl.sub s2 x4 4) (decide (Sl.bool s2 x4 5 = true)) (Sl.sub s2 x4 6) (Sl.int s2 (x4 - 1) 0) (Sl.int s2 (x4 - 1) 1) (Sl.int s2 (x4 - 1) 2) (decide (Sl.bool s2 (x4 - 1) 3 = true)) (Sl.sub s2 (x4 - 1) 4) (decide (Sl.bool s2 (x4 - 1) 5 = true)) (Sl.sub s2 (x4 - 1) 6) x5) →
(((x5 < 0) →
(q_tValid y0 (decide (b1 = true)) s2 (decide False)) ∧ True) ∧
(¬ (x5 < 0) →
(Rng .i64 (x4 - 1)) ∧
(J3 (x4 - 1) ∧ M3 (x4 - 1) < M3 x4))))))))))))))))) ∧
(((Rng .i64 (Sl.int s2 (x4 - 1) 0)) →
((Rng .i64 (Sl.int s2 (x4 - 1) 1)) →
((Rng .i64 (Sl.int s2 (x4 - 1) 2)) →
((Ranged (Sl.sub s2 (x4 - 1) 4) [some .u16]) →
((Ranged (Sl.sub s2 (x4 - 1) 6) [some .u16]) →
((Rng .i64 (Sl.int s2 x4 0)) →
((Rng .i64 (Sl.int s2 x4 1)) →
((Rng .i64 (Sl.int s2 x4 2)) →
((Ranged (Sl.sub s2 x4 4) [some .u16]) →
((Ranged (Sl.sub s2 x4 6) [some .u16]) →
(p_tCompare (Sl.int s2 x4 0) (Sl.int s2 x4 1) (Sl.int s2 x4 2) (decide (Sl.bool s2 x4 3 = true)) (Sl.sub s2 x4 4) (decide (Sl.bool s2 x4 5 = true)) (Sl.sub s2 x4 6) (Sl.int s2 (x4 - 1) 0) (Sl.int s2 (x4 - 1) 1) (Sl.int s2 (x4 - 1) 2) (decide (Sl.bool s2 (x4 - 1) 3 = true)) (Sl.sub s2 (x4 - 1) 4) (decide (Sl.bool s2 (x4 - 1) 5 = true)) (Sl.sub s2 (x4 - 1) 6)) ∧
(∀ x5 : Int,
((Rng .i64 x5) →
((q_tCompare (Sl.int s2 x4 0) (Sl.int s2 x4 1) (Sl.int s2 x4 2) (decide (Sl.bool s2 x4 3 = true)) (Sl.sub s2 x4 4) (decide (Sl.bool s2 x4 5 = true)) (Sl.sub s2 x4 6) (Sl.int s2 (x4 - 1) 0) (Sl.int s2 (x4 - 1) 1) (Sl.int s2 (x4 - 1) 2) (decide (Sl.bool s2 (x4 - 1) 3 = true)) (Sl.sub s2 (x4 - 1) 4) (decide (Sl.bool s2 (x4 - 1) 5 = true)) (Sl.sub s2 (x4 - 1) 6) x5) →
(((x5 < 0) →
(q_tValid y0 (decide (b1 = true)) s2 (decide False)) ∧ True) ∧
(¬ (x5 < 0) →
(Rng .i64 (x4 - 1)) ∧
(J3 (x4 - 1) ∧ M3 (x4 - 1) < M3 x4))))))))))))))))))) ∧
(¬ (x4 > 0) →
((Small s2) →
(∃ (J5 : Int → Prop) (M5 : Int → Nat), J5 0 ∧
(∀ x6 : Int,
((Rng .i64 x6) →
(J5 x6 →
(((x6 < (Sl.len s2)) →
((0 : Int) ≤ x6) ∧
(x6 < (Sl.len s2)) ∧
((Rng .i64 (Sl.int s2 x6 0)) →
((Rng .i64 (Sl.int s2 x6 1)) →
((Rng .i64 (Sl.int s2 x6 2)) →
((Ranged (Sl.sub s2 x6 4) [some .u16]) →
((Ranged (Sl.sub s2 x6 6) [some .u16]) →
(p_Right (decide (b1 = true)) (Sl.int s2 x6 0) (Sl.int s2 x6 1) (Sl.int s2 x6 2) (decide (Sl.bool s2 x6 3 = true)) (Sl.sub s2 x6 4) (decide (Sl.bool s2 x6 5 = true)) (Sl.sub s2 x6 6)) ∧
(∀ b7 : Bool,
((q_Right (decide (b1 = true)) (Sl.int s2 x6 0) (Sl.int s2 x6 1) (Sl.int s2 x6 2) (decide (Sl.bool s2 x6 3 = true)) (Sl.sub s2 x6 4) (decide (Sl.bool s2 x6 5 = true)) (Sl.sub s2 x6 6) (decide (b7 = true))) →
(((¬ (b7 = true)) →
(q_tValid y0 (decide (b1 = true)) s2 (decide (¬ (x6 ≥ 0)))) ∧ True) ∧
(¬ (¬ (b7 = true)) →
(Rng .i64 (x6 + 1)) ∧
(J5 (x6 + 1) ∧ M5 (x6 + 1) < M5 x6))))))))))) ∧
(¬ (x6 < (Sl.len s2)) →
(q_tValid y0 (decide (b1 = true)) s2 (decide (¬ (((-1) : Int) ≥ 0)))) ∧ True))))))))))))))))))))))))))
def V_copied : Prop :=
(∀ b0 : Bool,
(∀ s1 : Sl,
((Ranged s1 [some .u16]) →
(∀ b2 : Bool,
(∀ s3 : Sl,
((Ranged s3 [some .u16]) →
((p_copied (decide (b0 = true)) s1 (decide (b2 = true)) s3) →
(p_Clone16 s1) ∧
(∀ s4 : Sl,
((Ranged s4 [some .u16]) →
((q_Clone16 s1 s4) →
(p_Clone16 s3) ∧
(∀ s5 : Sl,
((Ranged s5 [some .u16]) →
((q_Clone16 s3 s5) →
(q_copied (decide (b0 = true)) s1 (decide (b2 = true)) s3 (decide (b0 = true)) s4 (decide (b2 = true)) s5) ∧ True)))))))))))))
def V_forced : Prop :=
(∀ y0 : ByteArray,
(∀ b1 : Bool,
(∀ s2 : Sl,
((Ranged s2 [some .i64, some .i64, some .i64, none, none, none, none]) →
(∀ x3 : Int,
((Rng .i64 x3) →
((p_forced y0 (decide (b1 = true)) s2 x3) →
((Small s2) →
(∃ (J4 : Sl → Int → Prop) (M4 : Sl → Int → Nat), J4 Sl.nil 0 ∧
(∀ s5 : Sl,
((Ranged s5 [some .i64, some .i64, some .i64, none, none, none, none]) →
(∀ x6 : Int,
((Rng .i64 x6) →
(J4 s5 x6 →
(((x6 < (Sl.len s2)) →
((0 : Int) ≤ x6) ∧
(x6 < (Sl.len s2)) ∧
((Rng .i64 (Sl.int s2 x6 0)) →
((Rng .i64 (Sl.int s2 x6 1)) →
((Rng .i64 (Sl.int s2 x6 2)) →
((Ranged (Sl.sub s2 x6 4) [some .u16]) →
((Ranged (Sl.sub s2 x6 6) [some .u16]) →
((((Sl.int s2 x6 2) > x3) →
(Rng .i64 (x6 + 1)) ∧
(J4 s5 (x6 + 1) ∧ M4 s5 (x6 + 1) < M4 s5 x6)) ∧
(¬ ((Sl.int s2 x6 2) > x3) →
((Small s5) →
((((Sl.len s5) > 0) →
(Rng .i64 ((Sl.len s5) - 1)) ∧
((0 : Int) ≤ ((Sl.len s5) - 1)) ∧
(((Sl.len s5) - 1) < (Sl.len s5)) ∧
((Rng .i64 (Sl.int s5 ((Sl.len s5) - 1) 0)) →
((Rng .i64 (Sl.int s5 ((Sl.len s5) - 1) 1)) →
((Rng .i64 (Sl.int s5 ((Sl.len s5) - 1) 2)) →
((Ranged (Sl.sub s5 ((Sl.len s5) - 1) 4) [some .u16]) →
((Ranged (Sl.sub s5 ((Sl.len s5) - 1) 6) [some .u16]) →
(((((Sl.int s5 ((Sl.len s5) - 1) 0) = (Sl.int s2 x6 0)) ∧ ((Sl.int s5 ((Sl.len s5) - 1) 1) = (Sl.int s2 x6 1))) →
(Rng .i64 ((Sl.len s5) - 1)) ∧
((0 : Int) ≤ 0) ∧
((0 : Int) ≤ ((Sl.len s5) - 1)) ∧
(((Sl.len s5) - 1) ≤ (Sl.len s5)) ∧
((((Sl.len (Sl.part s5 0 ((Sl.len s5) - 1))) + (Sl.len (Sl.lit [[(.int (Sl.int s2 x6 0)), (.int (Sl.int s2 x6 1)), (.int (Sl.int s2 x6 2)), (.bool (decide (Sl.bool s2 x6 3 = true))), (Sl.d (Sl.sub s2 x6 4)), (.bool (decide (Sl.bool s2 x6 5 = true))), (Sl.d (Sl.sub s2 x6 6))]]))) * 88) ≤ 140737488355328) ∧
(Rng .i64 (x6 + 1)) ∧
(J4 (Sl.app (Sl.part s5 0 ((Sl.len s5) - 1)) (Sl.lit [[(.int (Sl.int s2 x6 0)), (.int (Sl.int s2 x6 1)), (.int (Sl.int s2 x6 2)), (.bool (decide (Sl.bool s2 x6 3 = true))), (Sl.d (Sl.sub s2 x6 4)), (.bool (decide (Sl.bool s2 x6 5 = true))), (Sl.d (Sl.sub s2 x6 6))]])) (x6 + 1) ∧ M4 (Sl.app (Sl.part s5 0 ((Sl.len s5) - 1)) (Sl.lit [[(.int (Sl.int s2 x6 0)), (.int (Sl.int s2 x6 1)), (.int (Sl.int s2 x6 2)), (.bool (decide (Sl.bool s2 x6 3 = true))), (Sl.d (Sl.sub s2 x6 4)), (.bool (decide (Sl.bool s2 x6 5 = true))), (Sl.d (Sl.sub s2 x6 6))]])) (x6 + 1) < M4 s5 x6)) ∧
(¬ (((Sl.int s5 ((Sl.len s5) - 1) 0) = (Sl.int s2 x6 0)) ∧ ((Sl.int s5 ((Sl.len s5) - 1) 1) = (Sl.int s2 x6 1))) →
((((Sl.len s5) + (Sl.len (Sl.lit [[(.int (Sl.int s2 x6 0)), (.int (Sl.int s2 x6 1)), (.int (Sl.int s2 x6 2)), (.bool (decide (Sl.bool s2 x6 3 = true))), (Sl.d (Sl.sub s2 x6 4)), (.bool (decide (Sl.bool s2 x6 5 = true))), (Sl.d (Sl.sub s2 x6 6))]]))) * 88) ≤ 140737488355328) ∧
(Rng .i64 (x6 + 1)) ∧
(J4 (Sl.app s5 (Sl.lit [[(.int (Sl.int s2 x6 0)), (.int (Sl.int s2 x6 1)), (.int (Sl.int s2 x6 2)), (.bool (decide (Sl.bool s2 x6 3 = true))), (Sl.d (Sl.sub s2 x6 4)), (.bool (decide (Sl.bool s2 x6 5 = true))), (Sl.d (Sl.sub s2 x6 6))]])) (x6 + 1) ∧ M4 (Sl.app s5 (Sl.lit [[(.int (Sl.int s2 x6 0)), (.int (Sl.int s2 x6 1)), (.int (Sl.int s2 x6 2)), (.bool (decide (Sl.bool s2 x6 3 = true))), (Sl.d (Sl.sub s2 x6 4)), (.bool (decide (Sl.bool s2 x6 5 = true))), (Sl.d (Sl.sub s2 x6 6))]])) (x6 + 1) < M4 s5 x6))))))))) ∧
(¬ ((Sl.len s5) > 0) →
((((Sl.len s5) + (Sl.len (Sl.lit [[(.int (Sl.int s2 x6 0)), (.int (Sl.int s2 x6 1)), (.int (Sl.int s2 x6 2)), (.bool (decide (Sl.bool s2 x6 3 = true))), (Sl.d (Sl.sub s2 x6 4)), (.bool (decide (Sl.bool s2 x6 5 = true))), (Sl.d (Sl.sub s2 x6 6))]]))) * 88) ≤ 140737488355328) ∧
(Rng .i64 (x6 + 1)) ∧
(J4 (Sl.app s5 (Sl.lit [[(.int (Sl.int s2 x6 0)), (.int (Sl.int s2 x6 1)), (.int (Sl.int s2 x6 2)), (.bool (decide (Sl.bool s2 x6 3 = true))), (Sl.d (Sl.sub s2 x6 4)), (.bool (decide (Sl.bool s2 x6 5 = true))), (Sl.d (Sl.sub s2 x6 6))]])) (x6 + 1) ∧ M4 (Sl.app s5 (Sl.lit [[(.int (Sl.int s2 x6 0)), (.int (Sl.int s2 x6 1)), (.int (Sl.int s2 x6 2)), (.bool (decide (Sl.bool s2 x6 3 = true))), (Sl.d (Sl.sub s2 x6 4)), (.bool (decide (Sl.bool s2 x6 5 = true))), (Sl.d (Sl.sub s2 x6 6))]])) (x6 + 1) < M4 s5 x6)))))))))))) ∧
(¬ (x6 < (Sl.len s2)) →
(q_forced y0 (decide (b1 = true)) s2 x3 s5) ∧ True))))))))))))))))
def V_Look : Prop :=
(∀ y0 : ByteArray,
(∀ b1 : Bool,
(∀ s2 : Sl,
((Ranged s2 [some .i64, some .i64, some .i64, none, none, none, none]) →
(∀ x3 : Int,
((Rng .i64 x3) →
(∀ x4 : Int,
((Rng .i64 x4) →
((p_Look y0 (decide (b1 = true)) s2 x3 x4) →
(p_tValid y0 (decide (b1 = true)) s2) ∧
(∀ b5 : Bool,
((q_tValid y0 (decide (b1 = true)) s2 (decide (b5 = true))) →
(((¬ (b5 = true)) →
(q_Look y0 (decide (b1 = true)) s2 x3 x4 (decide False) Sl.nil (decide False) Sl.nil 2) ∧ True) ∧
(¬ (¬ (b5 = true)) →
(((b1 = true) →
(q_Look y0 (decide (b1 = true)) s2 x3 x4 (decide False) Sl.nil (decide False) Sl.nil 2) ∧ True) ∧
(¬ (b1 = true) →
(p_forced y0 (decide (b1 = true)) s2 x4) ∧
(∀ s6 : Sl,
((Ranged s6 [some .i64, some .i64, some .i64, none, none, none, none]) →
((q_forced y0 (decide (b1 = true)) s2 x4 s6) →
((Small s6) →
(∃ (J7 : Int → Int → Prop) (M7 : Int → Int → Nat), J7 0 (Sl.len s6) ∧
(∀ x8 : Int,
((Rng .i64 x8) →
(∀ x9 : Int,
((Rng .i64 x9) →
(J7 x8 x9 →
(((x8 < x9) →
(Rng .i64 (x8 + x9)) ∧
((0 : Int) ≤ 1) ∧
(Rng .u64 (shr .u64 (IntKind.wrap .u64 (x8 + x9)) 1)) ∧
((0 : Int) ≤ (IntKind.wrap .i64 (shr .u64 (IntKind.wrap .u64 (x8 + x9)) 1))) ∧
((IntKind.wrap .i64 (shr .u64 (IntKind.wrap .u64 (x8 + x9)) 1)) < (Sl.len s6)) ∧
((Rng .i64 (Sl.int s6 (IntKind.wrap .i64 (shr .u64 (IntKind.wrap .u64 (x8 + x9)) 1)) 0)) →
((Rng .i64 (Sl.int s6 (IntKind.wrap .i64 (shr .u64 (IntKind.wrap .u64 (x8 + x9)) 1)) 1)) →
((Rng .i64 (Sl.int s6 (IntKind.wrap .i64 (shr .u64 (IntKind.wrap .u64 (x8 + x9)) 1)) 2)) →
((Ranged (Sl.sub s6 (IntKind.wrap .i64 (shr .u64 (IntKind.wrap .u64 (x8 + x9)) 1)) 4) [some .u16]) →
((Ranged (Sl.sub s6 (IntKind.wrap .i64 (shr .u64 (IntKind.wrap .u64 (x8 + x9)) 1)) 6) [some .u16]) →
(((¬ ((Sl.int s6 (IntKind.wrap .i64 (shr .u64 (IntKind.wrap .u64 (x8 + x9)) 1)) 0) > x3)) →
(Rng .i64 ((IntKind.wrap .i64 (shr .u64 (IntKind.wrap .u64 (x8 + x9)) 1)) + 1)) ∧
(J7 ((IntKind.wrap .i64 (shr .u64 (IntKind.wrap .u64 (x8 + x9)) 1)) + 1) x9 ∧ M7 ((IntKind.wrap .i64 (shr .u64 (IntKind.wrap .u64 (x8 + x9)) 1)) + 1) x9 < M7 x8 x9)) ∧
(¬ (¬ ((Sl.int s6 (IntKind.wrap .i64 (shr .u64 (IntKind.wrap .u64 (x8 + x9)) 1)) 0) > x3)) →
(J7 x8 (IntKind.wrap .i64 (shr .u64 (IntKind.wrap .u64 (x8 + x9)) 1)) ∧ M7 x8 (IntKind.wrap .i64 (shr .u64 (IntKind.wrap .u64 (x8 + x9)) 1)) < M7 x8 x9))))))))) ∧
(¬ (x8 < x9) →
((0 : Int) ≤ 0) ∧
((0 : Int) ≤ x8) ∧
(x8 ≤ (Sl.len s6)) ∧
((Small (Sl.part s6 0 x8)) →
((((Sl.len (Sl.part s6 0 x8)) = 0) →
(q_Look y0 (decide (b1 = true)) s2 x3 x4 (decide False) Sl.nil (decide False) Sl.nil 6) ∧ True) ∧
(¬ ((Sl.len (Sl.part s6 0 x8)) = 0) →
((Small (Sl.part s6 0 x8)) →
(Rng .i64 ((Sl.len (Sl.part s6 0 x8)) - 1)) ∧
((0 : Int) ≤ ((Sl.len (Sl.part s6 0 x8)) - 1)) ∧
(((Sl.len (Sl.part s6 0 x8)) - 1) < (Sl.len (Sl.part s6 0 x8))) ∧
((Ranged (Sl.sub (Sl.part s6 0 x8) ((Sl.len (Sl.part s6 0 x8)) - 1) 4) [some .u16]) →
((Ranged (Sl.sub (Sl.part s6 0 x8) ((Sl.len (Sl.part s6 0 x8)) - 1) 6) [some .u16]) →
(p_copied (decide (Sl.bool (Sl.part s6 0 x8) ((Sl.len (Sl.part s6 0 x8)) - 1) 3 = true)) (Sl.sub (Sl.part s6 0 x8) ((Sl.len (Sl.part s6 0 x8)) - 1) 4) (decide (Sl.bool (Sl.part s6 0 x8) ((Sl.len (Sl.part s6 0 x8)) - 1) 5 = true)) (Sl.sub (Sl.part s6 0 x8) ((Sl.len (Sl.part s6 0 x8)) - 1) 6)) ∧
(∀ b10 : Bool,
(∀ s11 : Sl,
((Ranged s11 [some .u16]) →
(∀ b12 : Bool,
(∀ s13 : Sl,
((Ranged s13 [some .u16]) →
((q_copied (decide (Sl.bool (Sl.part s6 0 x8) ((Sl.len (Sl.part s6 0 x8)) - 1) 3 = true)) (Sl.sub (Sl.part s6 0 x8) ((Sl.len (Sl.part s6 0 x8)) - 1) 4) (decide (Sl.bool (Sl.part s6 0 x8) ((Sl.len (Sl.part s6 0 x8)) - 1) 5 = true)) (Sl.sub (Sl.part s6 0 x8) ((Sl.len (Sl.part s6 0 x8)) - 1) 6) (decide (b10 = true)) s11 (decide (b12 = true)) s13) →
(q_Look y0 (decide (b1 = true)) s2 x3 x4 (decide (b10 = true)) s11 (decide (b12 = true)) s13 0) ∧ True))))))))))))))))))))))))))))))))))))))))
def V_Learn : Prop :=
(∀ y0 : ByteArray,
(∀ b1 : Bool,
(∀ s2 : Sl,
((Ranged s2 [some .i64, some .i64, some .i64, none, none, none, none]) →
(∀ x3 : Int,
((Rng .i64 x3) →
(∀ x4 : Int,
((Rng .i64 x4) →
(∀ x5 : Int,
((Rng .i64 x5) →
(∀ b6 : Bool,
(∀ s7 : Sl,
((Ranged s7 [some .u16]) →
(∀ b8 : Bool,
(∀ s9 : Sl,
((Ranged s9 [some .u16]) →
((p_Learn y0 (decide (b1 = true)) s2 x3 x4 x5 (decide (b6 = true)) s7 (decide (b8 = true)) s9) →
(p_tValid y0 (decide (b1 = true)) s2) ∧
(∀ b10 : Bool,
((q_tValid y0 (decide (b1 = true)) s2 (decide (b10 = true))) →
(((¬ (b10 = true)) →
(q_Learn y0 (decide (b1 = true)) s2 x3 x4 x5 (decide (b6 = true)) s7 (decide (b8 = true)) s9 (bytes []) (decide False) Sl.nil 2) ∧ True) ∧
(¬ (¬ (b10 = true)) →
(p_Right (decide (b1 = true)) x3 x4 x5 (decide (b6 = true)) s7 (decide (b8 = true)) s9) ∧
(∀ b11 : Bool,
((q_Right (decide (b1 = true)) x3 x4 x5 (decide (b6 = true)) s7 (decide (b8 = true)) s9 (decide (b11 = true))) →
(((¬ (b11 = true)) →
(q_Learn y0 (decide (b1 = true)) s2 x3 x4 x5 (decide (b6 = true)) s7 (decide (b8 = true)) s9 (bytes []) (decide False) Sl.nil 2) ∧ True) ∧
(¬ (¬ (b11 = true)) →
((Small s2) →
((((Sl.len s2) = 400) →
(q_Learn y0 (decide (b1 = true)) s2 x3 x4 x5 (decide (b6 = true)) s7 (decide (b8 = true)) s9 (bytes []) (decide False) Sl.nil 4) ∧ True) ∧
(¬ ((Sl.len s2) = 400) →
((Small s2) →
(∃ (J12 : Int → Int → Prop) (M12 : Int → Int → Nat), J12 0 (Sl.len s2) ∧
(∀ x13 : Int,
((Rng .i64 x13) →
(∀ x14 : Int,
((Rng .i64 x14) →
(J12 x13 x14 →
(((x13 < x14) →
(Rng .i64 (x13 + x14)) ∧
((0 : Int) ≤ 1) ∧
(Rng .u64 (shr .u64 (IntKind.wrap .u64 (x13 + x14)) 1)) ∧
((0 : Int) ≤ (IntKind.wrap .i64 (shr .u64 (IntKind.wrap .u64 (x13 + x14)) 1))) ∧
((IntKind.wrap .i64 (shr .u64 (IntKind.wrap .u64 (x13 + x14)) 1)) < (Sl.len s2)) ∧
((Rng .i64 (Sl.int s2 (IntKind.wrap .i64 (shr .u64 (IntKind.wrap .u64 (x13 + x14)) 1)) 0)) →
((Rng .i64 (Sl.int s2 (IntKind.wrap .i64 (shr .u64 (IntKind.wrap .u64 (x13 + x14)) 1)) 1)) →
((Rng .i64 (Sl.int s2 (IntKind.wrap .i64 (shr .u64 (IntKind.wrap .u64 (x13 + x14)) 1)) 2)) →
((Ranged (Sl.sub s2 (IntKind.wrap .i64 (shr .u64 (IntKind.wrap .u64 (x13 + x14)) 1)) 4) [some .u16]) →
((Ranged (Sl.sub s2 (IntKind.wrap .i64 (shr .u64 (IntKind.wrap .u64 (x13 + x14)) 1)) 6) [some .u16]) →
(p_tCompare (Sl.int s2 (IntKind.wrap .i64 (shr .u64 (IntKind.wrap .u64 (x13 + x14)) 1)) 0) (Sl.int s2 (IntKind.wrap .i64 (shr .u64 (IntKind.wrap .u64 (x13 + x14)) 1)) 1) (Sl.int s2 (IntKind.wrap .i64 (shr .u64 (IntKind.wrap .u64 (x13 + x14)) 1)) 2) (decide (Sl.bool s2 (IntKind.wrap .i64 (shr .u64 (IntKind.wrap .u64 (x13 + x14)) 1)) 3 = true)) (Sl.sub s2 (IntKind.wrap .i64 (shr .u64 (IntKind.wrap .u64 (x13 + x14)) 1)) 4) (decide (Sl.bool s2 (IntKind.wrap .i64 (shr .u64 (IntKind.wrap .u64 (x13 + x14)) 1)) 5 = true)) (Sl.sub s2 (IntKind.wrap .i64 (shr .u64 (IntKind.wrap .u64 (x13 + x14)) 1)) 6) x3 x4 x5 (decide (b6 = true)) s7 (decide (b8 = true)) s9) ∧
(∀ x15 : Int,
((Rng .i64 x15) →
((q_tCompare (Sl.int s2 (IntKind.wrap .i64 (shr .u64 (IntKind.wrap .u64 (x13 + x14)) 1)) 0) (Sl.int s2 (IntKind.wrap .i64 (shr .u64 (IntKind.wrap .u64 (x13 + x14)) 1)) 1) (Sl.int s2 (IntKind.wrap .i64 (shr .u64 (IntKind.wrap .u64 (x13 + x14)) 1)) 2) (decide (Sl.bool s2 (IntKind.wrap .i64 (shr .u64 (IntKind.wrap .u64 (x13 + x14)) 1)) 3 = true)) (Sl.sub s2 (IntKind.wrap .i64 (shr .u64 (IntKind.wrap .u64 (x13 + x14)) 1)) 4) (decide (Sl.bool s2 (IntKind.wrap .i64 (shr .u64 (IntKind.wrap .u64 (x13 + x14)) 1)) 5 = true)) (Sl.sub s2 (IntKind.wrap .i64 (shr .u64 (IntKind.wrap .u64 (x13 + x14)) 1)) 6) x3 x4 x5 (decide (b6 = true)) s7 (decide (b8 = true)) s9 x15) →
(((¬ (x15 > 0)) →
(Rng .i64 ((IntKind.wrap .i64 (shr .u64 (IntKind.wrap .u64 (x13 + x14)) 1)) + 1)) ∧
(J12 ((IntKind.wrap .i64 (shr .u64 (IntKind.wrap .u64 (x13 + x14)) 1)) + 1) x14 ∧ M12 ((IntKind.wrap .i64 (shr .u64 (IntKind.wrap .u64 (x13 + x14)) 1)) + 1) x14 < M12 x13 x14)) ∧
(¬ (¬ (x15 > 0)) →
(J12 x13 (IntKind.wrap .i64 (shr .u64 (IntKind.wrap .u64 (x13 + x14)) 1)) ∧ M12 x13 (IntKind.wrap .i64 (shr .u64 (IntKind.wrap .u64 (x13 + x14)) 1)) < M12 x13 x14)))))))))))) ∧
(¬ (x13 < x14) →
((0 : Int) ≤ 0) ∧
((0 : Int) ≤ x13) ∧
(x13 ≤ (Sl.len s2)) ∧
((Small (Sl.part s2 0 x13)) →
(((∀ b15 : Bool,
(((b15 = true) →
(((Sl.len s2) ≤ 0) →
((0 : Int) ≤ (Sl.len (Sl.part s2 0 x13))) ∧
((Sl.len (Sl.part s2 0 x13)) ≤ (Sl.len Sl.nil)) ∧
((0 : Int) < (Sl.len (Sl.lit [[(.int x3), (.int x4), (.int x5), (.bool (decide (b6 = true))), (Sl.d s7), (.bool (decide (b8 = true))), (Sl.d s9)]]))) ∧
((((Sl.len Sl.nil) + (Sl.len (Sl.lit [[(.int x3), (.int x4), (.int x5), (.bool (decide (b6 = true))), (Sl.d s7), (.bool (decide (b8 = true))), (Sl.d s9)]]))) * 88) ≤ 140737488355328) ∧
((Small (Sl.app (Sl.app (Sl.part Sl.nil 0 (Sl.len (Sl.part s2 0 x13))) (Sl.lit [[(.int x3), (.int x4), (.int x5), (.bool (decide (b6 = true))), (Sl.d s7), (.bool (decide (b8 = true))), (Sl.d s9)]])) (Sl.part Sl.nil (Sl.len (Sl.part s2 0 x13)) (Sl.len Sl.nil)))) →
(∃ (J16 : Int → Sl → Prop) (M16 : Int → Sl → Nat), J16 0 (Sl.app (Sl.app (Sl.part Sl.nil 0 (Sl.len (Sl.part s2 0 x13))) (Sl.lit [[(.int x3), (.int x4), (.int x5), (.bool (decide (b6 = true))), (Sl.d s7), (.bool (decide (b8 = true))), (Sl.d s9)]])) (Sl.part Sl.nil (Sl.len (Sl.part s2 0 x13)) (Sl.len Sl.nil))) ∧
(∀ x17 : Int,
((Rng .i64 x17) →
(∀ s18 : Sl,
((Ranged s18 [some .i64, some .i64, some .i64, none, none, none, none]) →
(J16 x17 s18 →
(((x17 < (Sl.len (Sl.app (Sl.app (Sl.part Sl.nil 0 (Sl.len (Sl.part s2 0 x13))) (Sl.lit [[(.int x3), (.int x4), (.int x5), (.bool (decide (b6 = true))), (Sl.d s7), (.bool (decide (b8 = true))), (Sl.d s9)]])) (Sl.part Sl.nil (Sl.len (Sl.part s2 0 x13)) (Sl.len Sl.nil))))) →
((0 : Int) ≤ x17) ∧
(x17 < (Sl.len s18)) ∧
((Ranged (Sl.sub s18 x17 4) [some .u16]) →
((Ranged (Sl.sub s18 x17 6) [some .u16]) →
(p_copied (decide (Sl.bool s18 x17 3 = true)) (Sl.sub s18 x17 4) (decide (Sl.bool s18 x17 5 = true)) (Sl.sub s18 x17 6)) ∧
(∀ b19 : Bool,
(∀ s20 : Sl,
((Ranged s20 [some .u16]) →
(∀ b21 : Bool,
(∀ s22 : Sl,
((Ranged s22 [some .u16]) →
((q_copied (decide (Sl.bool s18 x17 3 = true)) (Sl.sub s18 x17 4) (decide (Sl.bool s18 x17 5 = true)) (Sl.sub s18 x17 6) (decide (b19 = true)) s20 (decide (b21 = true)) s22) →
((0 : Int) ≤ x17) ∧
(x17 < (Sl.len s18)) ∧
(Rng .i64 (x17 + 1)) ∧
(J16 (x17 + 1) (Sl.upd s18 x17 3 [(.bool (decide (b19 = true))), (Sl.d s20), (.bool (decide (b21 = true))), (Sl.d s22)]) ∧ M16 (x17 + 1) (Sl.upd s18 x17 3 [(.bool (decide (b19 = true))), (Sl.d s20), (.bool (decide (b21 = true))), (Sl.d s22)]) < M16 x17 s18))))))))))) ∧
(¬ (x17 < (Sl.len (Sl.app (Sl.app (Sl.part Sl.nil 0 (Sl.len (Sl.part s2 0 x13))) (Sl.lit [[(.int x3), (.int x4), (.int x5), (.bool (decide (b6 = true))), (Sl.d s7), (.bool (decide (b8 = true))), (Sl.d s9)]])) (Sl.part Sl.nil (Sl.len (Sl.part s2 0 x13)) (Sl.len Sl.nil))))) →
(q_Learn y0 (decide (b1 = true)) s2 x3 x4 x5 (decide (b6 = true)) s7 (decide (b8 = true)) s9 y0 (decide (b1 = true)) s18 0) ∧ True))))))))))) ∧
(¬ (b15 = true) →
((((Sl.len (Sl.lit [])) + (Sl.len s2)) * 88) ≤ 140737488355328) ∧
((0 : Int) ≤ (Sl.len (Sl.part s2 0 x13))) ∧
((Sl.len (Sl.part s2 0 x13)) ≤ (Sl.len (Sl.app (Sl.lit []) s2))) ∧
((0 : Int) < (Sl.len (Sl.lit [[(.int x3), (.int x4), (.int x5), (.bool (decide (b6 = true))), (Sl.d s7), (.bool (decide (b8 = true))), (Sl.d s9)]]))) ∧
((((Sl.len (Sl.app (Sl.lit []) s2)) + (Sl.len (Sl.lit [[(.int x3), (.int x4), (.int x5), (.bool (decide (b6 = true))), (Sl.d s7), (.bool (decide (b8 = true))), (Sl.d s9)]]))) * 88) ≤ 140737488355328) ∧
((Small (Sl.app (Sl.app (Sl.part (Sl.app (Sl.lit []) s2) 0 (Sl.len (Sl.part s2 0 x13))) (Sl.lit [[(.int x3), (.int x4), (.int x5), (.bool (decide (b6 = true))), (Sl.d s7), (.bool (decide (b8 = true))), (Sl.d s9)]])) (Sl.part (Sl.app (Sl.lit []) s2) (Sl.len (Sl.part s2 0 x13)) (Sl.len (Sl.app (Sl.lit []) s2))))) →
(∃ (J16 : Int → Sl → Prop) (M16 : Int → Sl → Nat), J16 0 (Sl.app (Sl.app (Sl.part (Sl.app (Sl.lit []) s2) 0 (Sl.len (Sl.part s2 0 x13))) (Sl.lit [[(.int x3), (.int x4), (.int x5), (.bool (decide (b6 = true))), (Sl.d s7), (.bool (decide (b8 = true))), (Sl.d s9)]])) (Sl.part (Sl.app (Sl.lit []) s2) (Sl.len (Sl.part s2 0 x13)) (Sl.len (Sl.app (Sl.lit []) s2)))) ∧
(∀ x17 : Int,
((Rng .i64 x17) →
(∀ s18 : Sl,
((Ranged s18 [some .i64, some .i64, some .i64, none, none, none, none]) →
(J16 x17 s18 →
(((x17 < (Sl.len (Sl.app (Sl.app (Sl.part (Sl.app (Sl.lit []) s2) 0 (Sl.len (Sl.part s2 0 x13))) (Sl.lit [[(.int x3), (.int x4), (.int x5), (.bool (decide (b6 = true))), (Sl.d s7), (.bool (decide (b8 = true))), (Sl.d s9)]])) (Sl.part (Sl.app (Sl.lit []) s2) (Sl.len (Sl.part s2 0 x13)) (Sl.len (Sl.app (Sl.lit []) s2)))))) →
((0 : Int) ≤ x17) ∧
(x17 < (Sl.len s18)) ∧
((Ranged (Sl.sub s18 x17 4) [some .u16]) →
((Ranged (Sl.sub s18 x17 6) [some .u16]) →
(p_copied (decide (Sl.bool s18 x17 3 = true)) (Sl.sub s18 x17 4) (decide (Sl.bool s18 x17 5 = true)) (Sl.sub s18 x17 6)) ∧
(∀ b19 : Bool,
(∀ s20 : Sl,
((Ranged s20 [some .u16]) →
(∀ b21 : Bool,
(∀ s22 : Sl,
((Ranged s22 [some .u16]) →
((q_copied (decide (Sl.bool s18 x17 3 = true)) (Sl.sub s18 x17 4) (decide (Sl.bool s18 x17 5 = true)) (Sl.sub s18 x17 6) (decide (b19 = true)) s20 (decide (b21 = true)) s22) →
((0 : Int) ≤ x17) ∧
(x17 < (Sl.len s18)) ∧
(Rng .i64 (x17 + 1)) ∧
(J16 (x17 + 1) (Sl.upd s18 x17 3 [(.bool (decide (b19 = true))), (Sl.d s20), (.bool (decide (b21 = true))), (Sl.d s22)]) ∧ M16 (x17 + 1) (Sl.upd s18 x17 3 [(.bool (decide (b19 = true))), (Sl.d s20), (.bool (decide (b21 = true))), (Sl.d s22)]) < M16 x17 s18))))))))))) ∧
(¬ (x17 < (Sl.len (Sl.app (Sl.app (Sl.part (Sl.app (Sl.lit []) s2) 0 (Sl.len (Sl.part s2 0 x13))) (Sl.lit [[(.int x3), (.int x4), (.int x5), (.bool (decide (b6 = true))), (Sl.d s7), (.bool (decide (b8 = true))), (Sl.d s9)]])) (Sl.part (Sl.app (Sl.lit []) s2) (Sl.len (Sl.part s2 0 x13)) (Sl.len (Sl.app (Sl.lit []) s2)))))) →
(q_Learn y0 (decide (b1 = true)) s2 x3 x4 x5 (decide (b6 = true)) s7 (decide (b8 = true)) s9 y0 (decide (b1 = true)) s18 0) ∧ True))))))))))))) ∧
((∀ b15 : Bool,
(((b15 = true) →
(((Sl.len s2) ≤ 0) →
((0 : Int) ≤ (Sl.len (Sl.part s2 0 x13))) ∧
((Sl.len (Sl.part s2 0 x13)) ≤ (Sl.len Sl.nil)) ∧
((0 : Int) < (Sl.len (Sl.lit [[(.int x3), (.int x4), (.int x5), (.bool (decide (b6 = true))), (Sl.d s7), (.bool (decide (b8 = true))), (Sl.d s9)]]))) ∧
((((Sl.len Sl.nil) + (Sl.len (Sl.lit [[(.int x3), (.int x4), (.int x5), (.bool (decide (b6 = true))), (Sl.d s7), (.bool (decide (b8 = true))), (Sl.d s9)]]))) * 88) ≤ 140737488355328) ∧
((Small (Sl.app (Sl.app (Sl.part Sl.nil 0 (Sl.len (Sl.part s2 0 x13))) (Sl.lit [[(.int x3), (.int x4), (.int x5), (.bool (decide (b6 = true))), (Sl.d s7), (.bool (decide (b8 = true))), (Sl.d s9)]])) (Sl.part Sl.nil (Sl.len (Sl.part s2 0 x13)) (Sl.len Sl.nil)))) →
(∃ (J16 : Int → Sl → Prop) (M16 : Int → Sl → Nat), J16 0 (Sl.app (Sl.app (Sl.part Sl.nil 0 (Sl.len (Sl.part s2 0 x13))) (Sl.lit [[(.int x3), (.int x4), (.int x5), (.bool (decide (b6 = true))), (Sl.d s7), (.bool (decide (b8 = true))), (Sl.d s9)]])) (Sl.part Sl.nil (Sl.len (Sl.part s2 0 x13)) (Sl.len Sl.nil))) ∧
(∀ x17 : Int,
((Rng .i64 x17) →
(∀ s18 : Sl,
((Ranged s18 [some .i64, some .i64, some .i64, none, none, none, none]) →
(J16 x17 s18 →
(((x17 < (Sl.len (Sl.app (Sl.app (Sl.part Sl.nil 0 (Sl.len (Sl.part s2 0 x13))) (Sl.lit [[(.int x3), (.int x4), (.int x5), (.bool (decide (b6 = true))), (Sl.d s7), (.bool (decide (b8 = true))), (Sl.d s9)]])) (Sl.part Sl.nil (Sl.len (Sl.part s2 0 x13)) (Sl.len Sl.nil))))) →
((0 : Int) ≤ x17) ∧
(x17 < (Sl.len s18)) ∧
((Ranged (Sl.sub s18 x17 4) [some .u16]) →
((Ranged (Sl.sub s18 x17 6) [some .u16]) →
(p_copied (decide (Sl.bool s18 x17 3 = true)) (Sl.sub s18 x17 4) (decide (Sl.bool s18 x17 5 = true)) (Sl.sub s18 x17 6)) ∧
(∀ b19 : Bool,
(∀ s20 : Sl,
((Ranged s20 [some .u16]) →
(∀ b21 : Bool,
(∀ s22 : Sl,
((Ranged s22 [some .u16]) →
((q_copied (decide (Sl.bool s18 x17 3 = true)) (Sl.sub s18 x17 4) (decide (Sl.bool s18 x17 5 = true)) (Sl.sub s18 x17 6) (decide (b19 = true)) s20 (decide (b21 = true)) s22) →
((0 : Int) ≤ x17) ∧
(x17 < (Sl.len s18)) ∧
(Rng .i64 (x17 + 1)) ∧
(J16 (x17 + 1) (Sl.upd s18 x17 3 [(.bool (decide (b19 = true))), (Sl.d s20), (.bool (decide (b21 = true))), (Sl.d s22)]) ∧ M16 (x17 + 1) (Sl.upd s18 x17 3 [(.bool (decide (b19 = true))), (Sl.d s20), (.bool (decide (b21 = true))), (Sl.d s22)]) < M16 x17 s18))))))))))) ∧
(¬ (x17 < (Sl.len (Sl.app (Sl.app (Sl.part Sl.nil 0 (Sl.len (Sl.part s2 0 x13))) (Sl.lit [[(.int x3), (.int x4), (.int x5), (.bool (decide (b6 = true))), (Sl.d s7), (.bool (decide (b8 = true))), (Sl.d s9)]])) (Sl.part Sl.nil (Sl.len (Sl.part s2 0 x13)) (Sl.len Sl.nil))))) →
(q_Learn y0 (decide (b1 = true)) s2 x3 x4 x5 (decide (b6 = true)) s7 (decide (b8 = true)) s9 y0 (decide (b1 = true)) s18 0) ∧ True))))))))))) ∧
(¬ (b15 = true) →
((((Sl.len (Sl.lit [])) + (Sl.len s2)) * 88) ≤ 140737488355328) ∧
((0 : Int) ≤ (Sl.len (Sl.part s2 0 x13))) ∧
((Sl.len (Sl.part s2 0 x13)) ≤ (Sl.len (Sl.app (Sl.lit []) s2))) ∧
((0 : Int) < (Sl.len (Sl.lit [[(.int x3), (.int x4), (.int x5), (.bool (decide (b6 = true))), (Sl.d s7), (.bool (decide (b8 = true))), (Sl.d s9)]]))) ∧
((((Sl.len (Sl.app (Sl.lit []) s2)) + (Sl.len (Sl.lit [[(.int x3), (.int x4), (.int x5), (.bool (decide (b6 = true))), (Sl.d s7), (.bool (decide (b8 = true))), (Sl.d s9)]]))) * 88) ≤ 140737488355328) ∧
((Small (Sl.app (Sl.app (Sl.part (Sl.app (Sl.lit []) s2) 0 (Sl.len (Sl.part s2 0 x13))) (Sl.lit [[(.int x3), (.int x4), (.int x5), (.bool (decide (b6 = true))), (Sl.d s7), (.bool (decide (b8 = true))), (Sl.d s9)]])) (Sl.part (Sl.app (Sl.lit []) s2) (Sl.len (Sl.part s2 0 x13)) (Sl.len (Sl.app (Sl.lit []) s2))))) →
(∃ (J16 : Int → Sl → Prop) (M16 : Int → Sl → Nat), J16 0 (Sl.app (Sl.app (Sl.part (Sl.app (Sl.lit []) s2) 0 (Sl.len (Sl.part s2 0 x13))) (Sl.lit [[(.int x3), (.int x4), (.int x5), (.bool (decide (b6 = true))), (Sl.d s7), (.bool (decide (b8 = true))), (Sl.d s9)]])) (Sl.part (Sl.app (Sl.lit []) s2) (Sl.len (Sl.part s2 0 x13)) (Sl.len (Sl.app (Sl.lit []) s2)))) ∧
(∀ x17 : Int,
((Rng .i64 x17) →
(∀ s18 : Sl,
((Ranged s18 [some .i64, some .i64, some .i64, none, none, none, none]) →
(J16 x17 s18 →
(((x17 < (Sl.len (Sl.app (Sl.app (Sl.part (Sl.app (Sl.lit []) s2) 0 (Sl.len (Sl.part s2 0 x13))) (Sl.lit [[(.int x3), (.int x4), (.int x5), (.bool (decide (b6 = true))), (Sl.d s7), (.bool (decide (b8 = true))), (Sl.d s9)]])) (Sl.part (Sl.app (Sl.lit []) s2) (Sl.len (Sl.part s2 0 x13)) (Sl.len (Sl.app (Sl.lit []) s2)))))) →
((0 : Int) ≤ x17) ∧
(x17 < (Sl.len s18)) ∧
((Ranged (Sl.sub s18 x17 4) [some .u16]) →
((Ranged (Sl.sub s18 x17 6) [some .u16]) →
(p_copied (decide (Sl.bool s18 x17 3 = true)) (Sl.sub s18 x17 4) (decide (Sl.bool s18 x17 5 = true)) (Sl.sub s18 x17 6)) ∧
(∀ b19 : Bool,
(∀ s20 : Sl,
((Ranged s20 [some .u16]) →
(∀ b21 : Bool,
(∀ s22 : Sl,
((Ranged s22 [some .u16]) →
((q_copied (decide (Sl.bool s18 x17 3 = true)) (Sl.sub s18 x17 4) (decide (Sl.bool s18 x17 5 = true)) (Sl.sub s18 x17 6) (decide (b19 = true)) s20 (decide (b21 = true)) s22) →
((0 : Int) ≤ x17) ∧
(x17 < (Sl.len s18)) ∧
(Rng .i64 (x17 + 1)) ∧
(J16 (x17 + 1) (Sl.upd s18 x17 3 [(.bool (decide (b19 = true))), (Sl.d s20), (.bool (decide (b21 = true))), (Sl.d s22)]) ∧ M16 (x17 + 1) (Sl.upd s18 x17 3 [(.bool (decide (b19 = true))), (Sl.d s20), (.bool (decide (b21 = true))), (Sl.d s22)]) < M16 x17 s18))))))))))) ∧
(¬ (x17 < (Sl.len (Sl.app (Sl.app (Sl.part (Sl.app (Sl.lit []) s2) 0 (Sl.len (Sl.part s2 0 x13))) (Sl.lit [[(.int x3), (.int x4), (.int x5), (.bool (decide (b6 = true))), (Sl.d s7), (.bool (decide (b8 = true))), (Sl.d s9)]])) (Sl.part (Sl.app (Sl.lit []) s2) (Sl.len (Sl.part s2 0 x13)) (Sl.len (Sl.app (Sl.lit []) s2)))))) →
(q_Learn y0 (decide (b1 = true)) s2 x3 x4 x5 (decide (b6 = true)) s7 (decide (b8 = true)) s9 y0 (decide (b1 = true)) s18 0) ∧ True))))))))))))))))))))))))))))))))))))))))))))))))))))
end Go.Sx.N
