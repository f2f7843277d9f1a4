/-
  The conditions of the functions. Conditions: none; printed by a program of our own.
-/
import Derived.Test.YtehofgnfaiefkaaGreatTabSpec
set_option maxRecDepth 20000
namespace Go.Sx.N
def V_kWhole : Prop :=
(∀ x0 : Int,
((Rng .i64 x0) →
((p_kWhole x0) →
(∃ J1 : Int → Prop,
(((((x0 < 0) → J1 (IntKind.wrap .u64 (0 - (IntKind.wrap .u64 x0)))) ∧
(¬ (x0 < 0) → J1 (IntKind.wrap .u64 x0)))) ∧
((∀ x2 : Int,
((Rng .u64 x2) →
(J1 x2 →
(∃ (J3 : Int → Bool → Sl → Prop) (M3 : Int → Bool → Sl → Nat), J3 x2 (decide (x0 < 0)) Sl.nil ∧
(∀ x4 : Int,
((Rng .u64 x4) →
(∀ b5 : Bool,
(∀ s6 : Sl,
((Ranged s6 [some .u16]) →
(J3 x4 (decide (b5 = true)) s6 →
(((x4 > 0) →
((((Sl.len s6) + (Sl.len (Sl.lit [[(.int (IntKind.wrap .u16 x4))]]))) * 2) ≤ 140737488355328) ∧
((0 : Int) ≤ 16) ∧
(Rng .u64 (shr .u64 x4 16)) ∧
(J3 (shr .u64 x4 16) (decide (b5 = true)) (Sl.app s6 (Sl.lit [[(.int (IntKind.wrap .u16 x4))]])) ∧ M3 (shr .u64 x4 16) (decide (b5 = true)) (Sl.app s6 (Sl.lit [[(.int (IntKind.wrap .u16 x4))]])) < M3 x4 (decide (b5 = true)) s6)) ∧
(¬ (x4 > 0) →
(q_kWhole x0 (decide (b5 = true)) s6) ∧ True))))))))))))))))))
def V_kFrac : Prop :=
(∀ x0 : Int,
((Rng .i64 x0) →
(∀ x1 : Int,
((Rng .i64 x1) →
((p_kFrac x0 x1) →
(((x1 < 1) →
(p_kWhole 1) ∧
(∀ b2 : Bool,
(∀ s3 : Sl,
((Ranged s3 [some .u16]) →
((q_kWhole 1 (decide (b2 = true)) s3) →
(q_kFrac x0 x1 (decide False) Sl.nil (decide (b2 = true)) s3) ∧ True))))) ∧
(¬ (x1 < 1) →
(((x0 = 0) →
(p_kWhole 1) ∧
(∀ b2 : Bool,
(∀ s3 : Sl,
((Ranged s3 [some .u16]) →
((q_kWhole 1 (decide (b2 = true)) s3) →
(q_kFrac x0 x1 (decide False) Sl.nil (decide (b2 = true)) s3) ∧ True))))) ∧
(¬ (x0 = 0) →
(∃ J2 : Int → Prop,
(((((x0 < 0) → J2 (IntKind.wrap .u64 (0 - (IntKind.wrap .u64 x0)))) ∧
(¬ (x0 < 0) → J2 (IntKind.wrap .u64 x0)))) ∧
((∀ x3 : Int,
((Rng .u64 x3) →
(J2 x3 →
(∃ (J4 : Int → Int → Prop) (M4 : Int → Int → Nat), J4 x3 (IntKind.wrap .u64 x1) ∧
(∀ x5 : Int,
((Rng .u64 x5) →
(∀ x6 : Int,
((Rng .u64 x6) →
(J4 x5 x6 →
(((x6 > 0) →
(x6 ≠ 0) ∧
(Rng .u64 (Int.tmod x5 x6)) ∧
(J4 x6 (Int.tmod x5 x6) ∧ M4 x6 (Int.tmod x5 x6) < M4 x5 x6)) ∧
(¬ (x6 > 0) →
((IntKind.wrap .i64 x5) ≠ 0) ∧
(Rng .i64 (Int.tdiv x0 (IntKind.wrap .i64 x5))) ∧
((IntKind.wrap .i64 x5) ≠ 0) ∧
(Rng .i64 (Int.tdiv x1 (IntKind.wrap .i64 x5))) ∧
(p_kWhole (Int.tdiv x0 (IntKind.wrap .i64 x5))) ∧
(∀ b7 : Bool,
(∀ s8 : Sl,
((Ranged s8 [some .u16]) →
((q_kWhole (Int.tdiv x0 (IntKind.wrap .i64 x5)) (decide (b7 = true)) s8) →
(p_kWhole (Int.tdiv x1 (IntKind.wrap .i64 x5))) ∧
(∀ b9 : Bool,
(∀ s10 : Sl,
((Ranged s10 [some .u16]) →
((q_kWhole (Int.tdiv x1 (IntKind.wrap .i64 x5)) (decide (b9 = true)) s10) →
(q_kFrac x0 x1 (decide (b7 = true)) s8 (decide (b9 = true)) s10) ∧ True)))))))))))))))))))))))))))))))
def V_kLimbs : Prop :=
(∀ b0 : Bool,
(∀ s1 : Sl,
((Ranged s1 [some .u16]) →
(∀ b2 : Bool,
(∀ s3 : Sl,
((Ranged s3 [some .u16]) →
((p_kLimbs (decide (b0 = true)) s1 (decide (b2 = true)) s3) →
((Small s1) →
((Small s3) →
(Rng .i64 ((Sl.len s1) + (Sl.len s3))) ∧
(q_kLimbs (decide (b0 = true)) s1 (decide (b2 = true)) s3 ((Sl.len s1) + (Sl.len s3))) ∧ True)))))))))
def V_cmpI : Prop :=
(∀ x0 : Int,
((Rng .i64 x0) →
(∀ x1 : Int,
((Rng .i64 x1) →
((p_cmpI x0 x1) →
(((x0 ≠ x0) →
(((x1 ≠ x1) →
(q_cmpI x0 x1 0) ∧ True) ∧
(¬ (x1 ≠ x1) →
(q_cmpI x0 x1 (-1)) ∧ True))) ∧
(¬ (x0 ≠ x0) →
(((x1 ≠ x1) →
(q_cmpI x0 x1 1) ∧ True) ∧
(¬ (x1 ≠ x1) →
(((x0 < x1) →
(q_cmpI x0 x1 (-1)) ∧ True) ∧
(¬ (x0 < x1) →
(((x0 > x1) →
(q_cmpI x0 x1 1) ∧ True) ∧
(¬ (x0 > x1) →
(q_cmpI x0 x1 0) ∧ True)))))))))))))
def V_cmpOr : Prop :=
(∀ s0 : Sl,
((Ranged s0 [some .i64]) →
((p_cmpOr s0) →
((Small s0) →
(∃ (J1 : Int → Prop) (M1 : Int → Nat), J1 0 ∧
(∀ x2 : Int,
((Rng .i64 x2) →
(J1 x2 →
(((x2 < (Sl.len s0)) →
((0 : Int) ≤ x2) ∧
(x2 < (Sl.len s0)) ∧
((Rng .i64 (Sl.int s0 x2 0)) →
((((Sl.int s0 x2 0) ≠ 0) →
(q_cmpOr s0 (Sl.int s0 x2 0)) ∧ True) ∧
(¬ ((Sl.int s0 x2 0) ≠ 0) →
(Rng .i64 (x2 + 1)) ∧
(J1 (x2 + 1) ∧ M1 (x2 + 1) < M1 x2))))) ∧
(¬ (x2 < (Sl.len s0)) →
(q_cmpOr s0 0) ∧ True))))))))))
def V_tCompare : Prop :=
(∀ x0 : Int,
((Rng .i64 x0) →
(∀ x1 : Int,
((Rng .i64 x1) →
(∀ x2 : Int,
((Rng .i64 x2) →
(∀ b3 : Bool,
(∀ s4 : Sl,
((Ranged s4 [some .u16]) →
(∀ b5 : Bool,
(∀ s6 : Sl,
((Ranged s6 [some .u16]) →
(∀ x7 : Int,
((Rng .i64 x7) →
(∀ x8 : Int,
((Rng .i64 x8) →
(∀ x9 : Int,
((Rng .i64 x9) →
(∀ b10 : Bool,
(∀ s11 : Sl,
((Ranged s11 [some .u16]) →
(∀ b12 : Bool,
(∀ s13 : Sl,
((Ranged s13 [some .u16]) →
((p_tCompare x0 x1 x2 (decide (b3 = true)) s4 (decide (b5 = true)) s6 x7 x8 x9 (decide (b10 = true)) s11 (decide (b12 = true)) s13) →
(p_cmpI x0 x7) ∧
(∀ x14 : Int,
((Rng .i64 x14) →
((q_cmpI x0 x7 x14) →
(p_cmpI x1 x8) ∧
(∀ x15 : Int,
((Rng .i64 x15) →
((q_cmpI x1 x8 x15) →
(p_cmpI x2 x9) ∧
(∀ x16 : Int,
((Rng .i64 x16) →
((q_cmpI x2 x9 x16) →
(p_cmpOr (Sl.lit [[(.int x14)], [(.int x15)], [(.int x16)]])) ∧
(∀ x17 : Int,
((Rng .i64 x17) →
((q_cmpOr (Sl.lit [[(.int x14)], [(.int x15)], [(.int x16)]]) x17) →
(q_tCompare x0 x1 x2 (decide (b3 = true)) s4 (decide (b5 = true)) s6 x7 x8 x9 (decide (b10 = true)) s11 (decide (b12 = true)) s13 x17) ∧ True)))))))))))))))))))))))))))))))))))))
def V_Right : Prop :=
(∀ b0 : Bool,
(∀ x1 : Int,
((Rng .i64 x1) →
(∀ x2 : Int,
((Rng .i64 x2) →
(∀ x3 : Int,
((Rng .i64 x3) →
(∀ b4 : Bool,
(∀ s5 : Sl,
((Ranged s5 [some .u16]) →
(∀ b6 : Bool,
(∀ s7 : Sl,
((Ranged s7 [some .u16]) →
((p_Right (decide (b0 = true)) x1 x2 x3 (decide (b4 = true)) s5 (decide (b6 = true)) s7) →
(∃ (J8 : Int → Prop) (M8 : Int → Nat), J8 0 ∧
(∀ x9 : Int,
((Rng .i64 x9) →
(J8 x9 →
(((x9 < 2) →
((0 : Int) ≤ x9) ∧
(x9 < 2) ∧
(((x9 = 0) →
(((x1 < (-2147483648)) →
(q_Right (decide (b0 = true)) x1 x2 x3 (decide (b4 = true)) s5 (decide (b6 = true)) s7 (decide False)) ∧ True) ∧
(¬ (x1 < (-2147483648)) →
(((x1 > 2147483647) →
(q_Right (decide (b0 = true)) x1 x2 x3 (decide (b4 = true)) s5 (decide (b6 = true)) s7 (decide False)) ∧ True) ∧
(¬ (x1 > 2147483647) →
(Rng .i64 (x9 + 1)) ∧
(J8 (x9 + 1) ∧ M8 (x9 + 1) < M8 x9)))))) ∧
(¬ (x9 = 0) →
(((x2 < (-2147483648)) →
(q_Right (decide (b0 = true)) x1 x2 x3 (decide (b4 = true)) s5 (decide (b6 = true)) s7 (decide False)) ∧ True) ∧
(¬ (x2 < (-2147483648)) →
(((x2 > 2147483647) →
(q_Right (decide (b0 = true)) x1 x2 x3 (decide (b4 = true)) s5 (decide (b6 = true)) s7 (decide False)) ∧ True) ∧
(¬ (x2 > 2147483647) →
(Rng .i64 (x9 + 1)) ∧
(J8 (x9 + 1) ∧ M8 (x9 + 1) < M8 x9)))))))) ∧
(¬ (x9 < 2) →
(((b0 = true) →
((((0 : Int) ≤ x3) →
(((x3 < 65536) →
(p_fValid (decide (b4 = true)) s5 (decide (b6 = true)) s7) ∧
(∀ b10 : Bool,
((q_fValid (decide (b4 = true)) s5 (decide (b6 = true)) s7 (decide (b10 = true))) →
(q_Right (decide (b0 = true)) x1 x2 x3 (decide (b4 = true)) s5 (decide (b6 = true)) s7 (decide (b10 = true))) ∧ True))) ∧
(¬ (x3 < 65536) →
(q_Right (decide (b0 = true)) x1 x2 x3 (decide (b4 = true)) s5 (decide (b6 = true)) s7 (decide False)) ∧ True))) ∧
(¬ ((0 : Int) ≤ x3) →
(q_Right (decide (b0 = true)) x1 x2 x3 (decide (b4 = true)) s5 (decide (b6 = true)) s7 (decide False)) ∧ True))) ∧
(¬ (b0 = true) →
(((x2 = 0) →
((((0 : Int) ≤ x3) →
(((x3 < 65536) →
(p_fValid (decide (b4 = true)) s5 (decide (b6 = true)) s7) ∧
(∀ b10 : Bool,
((q_fValid (decide (b4 = true)) s5 (decide (b6 = true)) s7 (decide (b10 = true))) →
(q_Right (decide (b0 = true)) x1 x2 x3 (decide (b4 = true)) s5 (decide (b6 = true)) s7 (decide (b10 = true))) ∧ True))) ∧
(¬ (x3 < 65536) →
(q_Right (decide (b0 = true)) x1 x2 x3 (decide (b4 = true)) s5 (decide (b6 = true)) s7 (decide False)) ∧ True))) ∧
(¬ ((0 : Int) ≤ x3) →
(q_Right (decide (b0 = true)) x1 x2 x3 (decide (b4 = true)) s5 (decide (b6 = true)) s7 (decide False)) ∧ True))) ∧
(¬ (x2 = 0) →
(q_Right (decide (b0 = true)) x1 x2 x3 (decide (b4 = true)) s5 (decide (b6 = true)) s7 (decide False)) ∧ True))))))))))))))))))))))))
def V_tValid : Prop :=
(∀ y0 : ByteArray,
(∀ b1 : Bool,
(∀ s2 : Sl,
((Ranged s2 [some .i64, some .i64, some .i64, none, none, none, none]) →
((p_tValid y0 (decide (b1 = true)) s2) →
(Rng .i64 (ylen y0)) ∧
((((ylen y0) < 1) →
(q_tValid y0 (decide (b1 = true)) s2 (decide False)) ∧ True) ∧
(¬ ((ylen y0) < 1) →
(Rng .i64 (ylen y0)) ∧
((((ylen y0) > 24) →
(q_tValid y0 (decide (b1 = true)) s2 (decide False)) ∧ True) ∧
(¬ ((ylen y0) > 24) →
((Small s2) →
((((Sl.len s2) > 400) →
(q_tValid y0 (decide (b1 = true)) s2 (decide False)) ∧ True) ∧
(¬ ((Sl.len s2) > 400) →
((Small s2) →
(Rng .i64 ((Sl.len s2) - 1)) ∧
(∃ (J3 : Int → Prop) (M3 : Int → Nat), J3 ((Sl.len s2) - 1) ∧
(∀ x4 : Int,
((Rng .i64 x4) →
(J3 x4 →
(((x4 > 0) →
((0 : Int) ≤ x4) ∧
(x4 < (Sl.len s2)) ∧
(Rng .i64 (x4 - 1)) ∧
((0 : Int) ≤ (x4 - 1)) ∧
((x4 - 1) < (Sl.len s2)) ∧
((((Rng .i64 (Sl.int s2 x4 0)) →
((Rng .i64 (Sl.int s2 x4 1)) →
((Rng .i64 (Sl.int s2 x4 2)) →
((Ranged (Sl.sub s2 x4 4) [some .u16]) →
((Ranged (Sl.sub s2 x4 6) [some .u16]) →
((Rng .i64 (Sl.int s2 (x4 - 1) 0)) →
((Rng .i64 (Sl.int s2 (x4 - 1) 1)) →
((Rng .i64 (Sl.int s2 (x4 - 1) 2)) →
((Ranged (Sl.sub s2 (x4 - 1) 4) [some .u16]) →
((Ranged (Sl.sub s2 (x4 - 1) 6) [some .u16]) →
(p_tCompare (Sl.int s2 x4 0) (Sl.int s2 x4 1) (Sl.int s2 x4 2) (decide (Sl.bool s2 x4 3 = true)) (Sl.sub s2 x4 4) (decide (Sl.bool s2 x4 5 = true)) (Sl.sub s2 x4 6) (Sl.int s2 (x4 - 1) 0) (Sl.int s2 (x4 - 1) 1) (Sl.int s2 (x4 - 1) 2) (decide (Sl.bool s2 (x4 - 1) 3 = true)) (Sl.sub s2 (x4 - 1) 4) (decide (Sl.bool s2 (x4 - 1) 5 = true)) (Sl.sub s2 (x4 - 1) 6)) ∧
(∀ x5 : Int,
((Rng .i64 x5) →
((q_tCompare (Sl.int s2 x4 0) (Sl.int s2 x4 1) (Sl.int s2 x4 2) (decide (Sl.bool s2 x4 3 = true)) (Sl.sub s2 x4 4) (decide (Sl.bool s2 x4 5 = true)) (Sl.sub s2 x4 6) (Sl.int s2 (x4 - 1) 0) (Sl.int s2 (x4 - 1) 1) (Sl.int s2 (x4 - 1) 2) (decide (Sl.bool s2 (x4 - 1) 3 = true)) (Sl.sub s2 (x4 - 1) 4) (decide (Sl.bool s2 (x4 - 1) 5 = true)) (Sl.sub s2 (x4 - 1) 6) x5) →
(((x5 < 0) →
(q_tValid y0 (decide (b1 = true)) s2 (decide False)) ∧ True) ∧
(¬ (x5 < 0) →
(Rng .i64 (x4 - 1)) ∧
(J3 (x4 - 1) ∧ M3 (x4 - 1) < M3 x4))))))))))))))))) ∧
(((Rng .i64 (Sl.int s2 (x4 - 1) 0)) →
((Rng .i64 (Sl.int s2 (x4 - 1) 1)) →
((Rng .i64 (Sl.int s2 (x4 - 1) 2)) →
((Ranged (Sl.sub s2 (x4 - 1) 4) [some .u16]) →
((Ranged (Sl.sub s2 (x4 - 1) 6) [some .u16]) →
((Rng .i64 (Sl.int s2 x4 0)) →
((Rng .i64 (Sl.int s2 x4 1)) →
((Rng .i64 (Sl.int s2 x4 2)) →
((Ranged (Sl.sub s2 x4 4) [some .u16]) →
((Ranged (Sl.sub s2 x4 6) [some .u16]) →
(p_tCompare (Sl.int s2 x4 0) (Sl.int s2 x4 1) (Sl.int s2 x4 2) (decide (Sl.bool s2 x4 3 = true)) (Sl.sub s2 x4 4) (decide (Sl.bool s2 x4 5 = true)) (Sl.sub s2 x4 6) (Sl.int s2 (x4 - 1) 0) (Sl.int s2 (x4 - 1) 1) (Sl.int s2 (x4 - 1) 2) (decide (Sl.bool s2 (x4 - 1) 3 = true)) (Sl.sub s2 (x4 - 1) 4) (decide (Sl.bool s2 (x4 - 1) 5 = true)) (Sl.sub s2 (x4 - 1) 6)) ∧
(∀ x5 : Int,
((Rng .i64 x5) →
((q_tCompare (Sl.int s2 x4 0) (Sl.int s2 x4 1) (Sl.int s2 x4 2) (decide (Sl.bool s2 x4 3 = true)) (Sl.sub s2 x4 4) (decide (Sl.bool s2 x4 5 = true)) (Sl.sub s2 x4 6) (Sl.int s2 (x4 - 1) 0) (Sl.int s2 (x4 - 1) 1) (Sl.int s2 (x4 - 1) 2) (decide (Sl.bool s2 (x4 - 1) 3 = true)) (Sl.sub s2 (x4 - 1) 4) (decide (Sl.bool s2 (x4 - 1) 5 = true)) (Sl.sub s2 (x4 - 1) 6) x5) →
(((x5 < 0) →
(q_tValid y0 (decide (b1 = true)) s2 (decide False)) ∧ True) ∧
(¬ (x5 < 0) →
(Rng .i64 (x4 - 1)) ∧
(J3 (x4 - 1) ∧ M3 (x4 - 1) < M3 x4))))))))))))))))))) ∧
(¬ (x4 > 0) →
((Small s2) →
(∃ (J5 : Int → Prop) (M5 : Int → Nat), J5 0 ∧
(∀ x6 : Int,
((Rng .i64 x6) →
(J5 x6 →
(((x6 < (Sl.len s2)) →
((0 : Int) ≤ x6) ∧
(x6 < (Sl.len s2)) ∧
((Rng .i64 (Sl.int s2 x6 0)) →
((Rng .i64 (Sl.int s2 x6 1)) →
((Rng .i64 (Sl.int s2 x6 2)) →
((Ranged (Sl.sub s2 x6 4) [some .u16]) →
((Ranged (Sl.sub s2 x6 6) [some .u16]) →
(p_Right (decide (b1 = true)) (Sl.int s2 x6 0) (Sl.int s2 x6 1) (Sl.int s2 x6 2) (decide (Sl.bool s2 x6 3 = true)) (Sl.sub s2 x6 4) (decide (Sl.bool s2 x6 5 = true)) (Sl.sub s2 x6 6)) ∧
(∀ b7 : Bool,
((q_Right (decide (b1 = true)) (Sl.int s2 x6 0) (Sl.int s2 x6 1) (Sl.int s2 x6 2) (decide (Sl.bool s2 x6 3 = true)) (Sl.sub s2 x6 4) (decide (Sl.bool s2 x6 5 = true)) (Sl.sub s2 x6 6) (decide (b7 = true))) →
(((¬ (b7 = true)) →
(q_tValid y0 (decide (b1 = true)) s2 (decide (¬ (x6 ≥ 0)))) ∧ True) ∧
(¬ (¬ (b7 = true)) →
(Rng .i64 (x6 + 1)) ∧
(J5 (x6 + 1) ∧ M5 (x6 + 1) < M5 x6))))))))))) ∧
(¬ (x6 < (Sl.len s2)) →
(q_tValid y0 (decide (b1 = true)) s2 (decide (¬ (((-1) : Int) ≥ 0)))) ∧ True))))))))))))))))))))))))))
def V_copied : Prop :=
(∀ b0 : Bool,
(∀ s1 : Sl,
((Ranged s1 [some .u16]) →
(∀ b2 : Bool,
(∀ s3 : Sl,
((Ranged s3 [some .u16]) →
((p_copied (decide (b0 = true)) s1 (decide (b2 = true)) s3) →
(p_Clone16 s1) ∧
(∀ s4 : Sl,
((Ranged s4 [some .u16]) →
((q_Clone16 s1 s4) →
(p_Clone16 s3) ∧
(∀ s5 : Sl,
((Ranged s5 [some .u16]) →
((q_Clone16 s3 s5) →
(q_copied (decide (b0 = true)) s1 (decide (b2 = true)) s3 (decide (b0 = true)) s4 (decide (b2 = true)) s5) ∧ True)))))))))))))
def V_forced : Prop :=
(∀ y0 : ByteArray,
(∀ b1 : Bool,
(∀ s2 : Sl,
((Ranged s2 [some .i64, some .i64, some .i64, none, none, none, none]) →
(∀ x3 : Int,
((Rng .i64 x3) →
((p_forced y0 (decide (b1 = true)) s2 x3) →
((Small s2) →
(∃ (J4 : Sl → Int → Prop) (M4 : Sl → Int → Nat), J4 Sl.nil 0 ∧
(∀ s5 : Sl,
((Ranged s5 [some .i64, some .i64, some .i64, none, none, none, none]) →
(∀ x6 : Int,
((Rng .i64 x6) →
(J4 s5 x6 →
(((x6 < (Sl.len s2)) →
((0 : Int) ≤ x6) ∧
(x6 < (Sl.len s2)) ∧
((Rng .i64 (Sl.int s2 x6 0)) →
((Rng .i64 (Sl.int s2 x6 1)) →
((Rng .i64 (Sl.int s2 x6 2)) →
((Ranged (Sl.sub s2 x6 4) [some .u16]) →
((Ranged (Sl.sub s2 x6 6) [some .u16]) →
((((Sl.int s2 x6 2) > x3) →
(Rng .i64 (x6 + 1)) ∧
(J4 s5 (x6 + 1) ∧ M4 s5 (x6 + 1) < M4 s5 x6)) ∧
(¬ ((Sl.int s2 x6 2) > x3) →
((Small s5) →
((((Sl.len s5) > 0) →
(Rng .i64 ((Sl.len s5) - 1)) ∧
((0 : Int) ≤ ((Sl.len s5) - 1)) ∧
(((Sl.len s5) - 1) < (Sl.len s5)) ∧
((Rng .i64 (Sl.int s5 ((Sl.len s5) - 1) 0)) →
((Rng .i64 (Sl.int s5 ((Sl.len s5) - 1) 1)) →
((Rng .i64 (Sl.int s5 ((Sl.len s5) - 1) 2)) →
((Ranged (Sl.sub s5 ((Sl.len s5) - 1) 4) [some .u16]) →
((Ranged (Sl.sub s5 ((Sl.len s5) - 1) 6) [some .u16]) →
(((((Sl.int s5 ((Sl.len s5) - 1) 0) = (Sl.int s2 x6 0)) ∧ ((Sl.int s5 ((Sl.len s5) - 1) 1) = (Sl.int s2 x6 1))) →
(Rng .i64 ((Sl.len s5) - 1)) ∧
((0 : Int) ≤ 0) ∧
((0 : Int) ≤ ((Sl.len s5) - 1)) ∧
(((Sl.len s5) - 1) ≤ (Sl.len s5)) ∧
((((Sl.len (Sl.part s5 0 ((Sl.len s5) - 1))) + (Sl.len (Sl.lit [[(.int (Sl.int s2 x6 0)), (.int (Sl.int s2 x6 1)), (.int (Sl.int s2 x6 2)), (.bool (decide (Sl.bool s2 x6 3 = true))), (Sl.d (Sl.sub s2 x6 4)), (.bool (decide (Sl.bool s2 x6 5 = true))), (Sl.d (Sl.sub s2 x6 6))]]))) * 88) ≤ 140737488355328) ∧
(Rng .i64 (x6 + 1)) ∧
(J4 (Sl.app (Sl.part s5 0 ((Sl.len s5) - 1)) (Sl.lit [[(.int (Sl.int s2 x6 0)), (.int (Sl.int s2 x6 1)), (.int (Sl.int s2 x6 2)), (.bool (decide (Sl.bool s2 x6 3 = true))), (Sl.d (Sl.sub s2 x6 4)), (.bool (decide (Sl.bool s2 x6 5 = true))), (Sl.d (Sl.sub s2 x6 6))]])) (x6 + 1) ∧ M4 (Sl.app (Sl.part s5 0 ((Sl.len s5) - 1)) (Sl.lit [[(.int (Sl.int s2 x6 0)), (.int (Sl.int s2 x6 1)), (.int (Sl.int s2 x6 2)), (.bool (decide (Sl.bool s2 x6 3 = true))), (Sl.d (Sl.sub s2 x6 4)), (.bool (decide (Sl.bool s2 x6 5 = true))), (Sl.d (Sl.sub s2 x6 6))]])) (x6 + 1) < M4 s5 x6)) ∧
(¬ (((Sl.int s5 ((Sl.len s5) - 1) 0) = (Sl.int s2 x6 0)) ∧ ((Sl.int s5 ((Sl.len s5) - 1) 1) = (Sl.int s2 x6 1))) →
((((Sl.len s5) + (Sl.len (Sl.lit [[(.int (Sl.int s2 x6 0)), (.int (Sl.int s2 x6 1)), (.int (Sl.int s2 x6 2)), (.bool (decide (Sl.bool s2 x6 3 = true))), (Sl.d (Sl.sub s2 x6 4)), (.bool (decide (Sl.bool s2 x6 5 = true))), (Sl.d (Sl.sub s2 x6 6))]]))) * 88) ≤ 140737488355328) ∧
(Rng .i64 (x6 + 1)) ∧
(J4 (Sl.app s5 (Sl.lit [[(.int (Sl.int s2 x6 0)), (.int (Sl.int s2 x6 1)), (.int (Sl.int s2 x6 2)), (.bool (decide (Sl.bool s2 x6 3 = true))), (Sl.d (Sl.sub s2 x6 4)), (.bool (decide (Sl.bool s2 x6 5 = true))), (Sl.d (Sl.sub s2 x6 6))]])) (x6 + 1) ∧ M4 (Sl.app s5 (Sl.lit [[(.int (Sl.int s2 x6 0)), (.int (Sl.int s2 x6 1)), (.int (Sl.int s2 x6 2)), (.bool (decide (Sl.bool s2 x6 3 = true))), (Sl.d (Sl.sub s2 x6 4)), (.bool (decide (Sl.bool s2 x6 5 = true))), (Sl.d (Sl.sub s2 x6 6))]])) (x6 + 1) < M4 s5 x6))))))))) ∧
(¬ ((Sl.len s5) > 0) →
((((Sl.len s5) + (Sl.len (Sl.lit [[(.int (Sl.int s2 x6 0)), (.int (Sl.int s2 x6 1)), (.int (Sl.int s2 x6 2)), (.bool (decide (Sl.bool s2 x6 3 = true))), (Sl.d (Sl.sub s2 x6 4)), (.bool (decide (Sl.bool s2 x6 5 = true))), (Sl.d (Sl.sub s2 x6 6))]]))) * 88) ≤ 140737488355328) ∧
(Rng .i64 (x6 + 1)) ∧
(J4 (Sl.app s5 (Sl.lit [[(.int (Sl.int s2 x6 0)), (.int (Sl.int s2 x6 1)), (.int (Sl.int s2 x6 2)), (.bool (decide (Sl.bool s2 x6 3 = true))), (Sl.d (Sl.sub s2 x6 4)), (.bool (decide (Sl.bool s2 x6 5 = true))), (Sl.d (Sl.sub s2 x6 6))]])) (x6 + 1) ∧ M4 (Sl.app s5 (Sl.lit [[(.int (Sl.int s2 x6 0)), (.int (Sl.int s2 x6 1)), (.int (Sl.int s2 x6 2)), (.bool (decide (Sl.bool s2 x6 3 = true))), (Sl.d (Sl.sub s2 x6 4)), (.bool (decide (Sl.bool s2 x6 5 = true))), (Sl.d (Sl.sub s2 x6 6))]])) (x6 + 1) < M4 s5 x6)))))))))))) ∧
(¬ (x6 < (Sl.len s2)) →
(q_forced y0 (decide (b1 = true)) s2 x3 s5) ∧ True))))))))))))))))
def V_Look : Prop :=
(∀ y0 : ByteArray,
(∀ b1 : Bool,
(∀ s2 : Sl,
((Ranged s2 [some .i64, some .i64, some .i64, none, none, none, none]) →
(∀ x3 : Int,
((Rng .i64 x3) →
(∀ x4 : Int,
((Rng .i64 x4) →
((p_Look y0 (decide (b1 = true)) s2 x3 x4) →
(p_tValid y0 (decide (b1 = true)) s2) ∧
(∀ b5 : Bool,
((q_tValid y0 (decide (b1 = true)) s2 (decide (b5 = true))) →
(((¬ (b5 = true)) →
(q_Look y0 (decide (b1 = true)) s2 x3 x4 (decide False) Sl.nil (decide False) Sl.nil 2) ∧ True) ∧
(¬ (¬ (b5 = true)) →
(((b1 = true) →
(q_Look y0 (decide (b1 = true)) s2 x3 x4 (decide False) Sl.nil (decide False) Sl.nil 2) ∧ True) ∧
(¬ (b1 = true) →
(p_forced y0 (decide (b1 = true)) s2 x4) ∧
(∀ s6 : Sl,
((Ranged s6 [some .i64, some .i64, some .i64, none, none, none, none]) →
((q_forced y0 (decide (b1 = true)) s2 x4 s6) →
((Small s6) →
(∃ (J7 : Int → Int → Prop) (M7 : Int → Int → Nat), J7 0 (Sl.len s6) ∧
(∀ x8 : Int,
((Rng .i64 x8) →
(∀ x9 : Int,
((Rng .i64 x9) →
(J7 x8 x9 →
(((x8 < x9) →
(Rng .i64 (x8 + x9)) ∧
((0 : Int) ≤ 1) ∧
(Rng .u64 (shr .u64 (IntKind.wrap .u64 (x8 + x9)) 1)) ∧
((0 : Int) ≤ (IntKind.wrap .i64 (shr .u64 (IntKind.wrap .u64 (x8 + x9)) 1))) ∧
((IntKind.wrap .i64 (shr .u64 (IntKind.wrap .u64 (x8 + x9)) 1)) < (Sl.len s6)) ∧
((Rng .i64 (Sl.int s6 (IntKind.wrap .i64 (shr .u64 (IntKind.wrap .u64 (x8 + x9)) 1)) 0)) →
((Rng .i64 (Sl.int s6 (IntKind.wrap .i64 (shr .u64 (IntKind.wrap .u64 (x8 + x9)) 1)) 1)) →
((Rng .i64 (Sl.int s6 (IntKind.wrap .i64 (shr .u64 (IntKind.wrap .u64 (x8 + x9)) 1)) 2)) →
((Ranged (Sl.sub s6 (IntKind.wrap .i64 (shr .u64 (IntKind.wrap .u64 (x8 + x9)) 1)) 4) [some .u16]) →
((Ranged (Sl.sub s6 (IntKind.wrap .i64 (shr .u64 (IntKind.wrap .u64 (x8 + x9)) 1)) 6) [some .u16]) →
(((¬ ((Sl.int s6 (IntKind.wrap .i64 (shr .u64 (IntKind.wrap .u64 (x8 + x9)) 1)) 0) > x3)) →
(Rng .i64 ((IntKind.wrap .i64 (shr .u64 (IntKind.wrap .u64 (x8 + x9)) 1)) + 1)) ∧
(J7 ((IntKind.wrap .i64 (shr .u64 (IntKind.wrap .u64 (x8 + x9)) 1)) + 1) x9 ∧ M7 ((IntKind.wrap .i64 (shr .u64 (IntKind.wrap .u64 (x8 + x9)) 1)) + 1) x9 < M7 x8 x9)) ∧
(¬ (¬ ((Sl.int s6 (IntKind.wrap .i64 (shr .u64 (IntKind.wrap .u64 (x8 + x9)) 1)) 0) > x3)) →
(J7 x8 (IntKind.wrap .i64 (shr .u64 (IntKind.wrap .u64 (x8 + x9)) 1)) ∧ M7 x8 (IntKind.wrap .i64 (shr .u64 (IntKind.wrap .u64 (x8 + x9)) 1)) < M7 x8 x9))))))))) ∧
(¬ (x8 < x9) →
((0 : Int) ≤ 0) ∧
((0 : Int) ≤ x8) ∧
(x8 ≤ (Sl.len s6)) ∧
((Small (Sl.part s6 0 x8)) →
((((Sl.len (Sl.part s6 0 x8)) = 0) →
(q_Look y0 (decide (b1 = true)) s2 x3 x4 (decide False) Sl.nil (decide False) Sl.nil 6) ∧ True) ∧
(¬ ((Sl.len (Sl.part s6 0 x8)) = 0) →
((Small (Sl.part s6 0 x8)) →
(Rng .i64 ((Sl.len (Sl.part s6 0 x8)) - 1)) ∧
((0 : Int) ≤ ((Sl.len (Sl.part s6 0 x8)) - 1)) ∧
(((Sl.len (Sl.part s6 0 x8)) - 1) < (Sl.len (Sl.part s6 0 x8))) ∧
((Ranged (Sl.sub (Sl.part s6 0 x8) ((Sl.len (Sl.part s6 0 x8)) - 1) 4) [some .u16]) →
((Ranged (Sl.sub (Sl.part s6 0 x8) ((Sl.len (Sl.part s6 0 x8)) - 1) 6) [some .u16]) →
(p_copied (decide (Sl.bool (Sl.part s6 0 x8) ((Sl.len (Sl.part s6 0 x8)) - 1) 3 = true)) (Sl.sub (Sl.part s6 0 x8) ((Sl.len (Sl.part s6 0 x8)) - 1) 4) (decide (Sl.bool (Sl.part s6 0 x8) ((Sl.len (Sl.part s6 0 x8)) - 1) 5 = true)) (Sl.sub (Sl.part s6 0 x8) ((Sl.len (Sl.part s6 0 x8)) - 1) 6)) ∧
(∀ b10 : Bool,
(∀ s11 : Sl,
((Ranged s11 [some .u16]) →
(∀ b12 : Bool,
(∀ s13 : Sl,
((Ranged s13 [some .u16]) →
((q_copied (decide (Sl.bool (Sl.part s6 0 x8) ((Sl.len (Sl.part s6 0 x8)) - 1) 3 = true)) (Sl.sub (Sl.part s6 0 x8) ((Sl.len (Sl.part s6 0 x8)) - 1) 4) (decide (Sl.bool (Sl.part s6 0 x8) ((Sl.len (Sl.part s6 0 x8)) - 1) 5 = true)) (Sl.sub (Sl.part s6 0 x8) ((Sl.len (Sl.part s6 0 x8)) - 1) 6) (decide (b10 = true)) s11 (decide (b12 = true)) s13) →
(q_Look y0 (decide (b1 = true)) s2 x3 x4 (decide (b10 = true)) s11 (decide (b12 = true)) s13 0) ∧ True))))))))))))))))))))))))))))))))))))))))
def V_LookTwo : Prop :=
(∀ y0 : ByteArray,
(∀ b1 : Bool,
(∀ s2 : Sl,
(∀ x3 : Int,
((Rng .i64 x3) →
(∀ x4 : Int,
((Rng .i64 x4) →
(∀ x5 : Int,
((Rng .i64 x5) →
((p_LookTwo y0 (decide (b1 = true)) s2 x3 x4 x5) →
(p_tValid y0 (decide (b1 = true)) s2) ∧
(∀ b6 : Bool,
((q_tValid y0 (decide (b1 = true)) s2 (decide (b6 = true))) →
(((¬ (b6 = true)) →
(q_LookTwo y0 (decide (b1 = true)) s2 x3 x4 x5 (decide False) Sl.nil (decide False) Sl.nil 2) ∧ True) ∧
(¬ (¬ (b6 = true)) →
(((¬ (b1 = true)) →
(q_LookTwo y0 (decide (b1 = true)) s2 x3 x4 x5 (decide False) Sl.nil (decide False) Sl.nil 2) ∧ True) ∧
(¬ (¬ (b1 = true)) →
(p_forced y0 (decide (b1 = true)) s2 x5) ∧
(∀ s7 : Sl,
((q_forced y0 (decide (b1 = true)) s2 x5 s7) →
((Small s7) →
(∃ (J8 : Int → Int → Prop) (M8 : Int → Int → Nat), J8 0 (Sl.len s7) ∧
(∀ x9 : Int,
((Rng .i64 x9) →
(∀ x10 : Int,
((Rng .i64 x10) →
(J8 x9 x10 →
(((x9 < x10) →
(Rng .i64 (x9 + x10)) ∧
((0 : Int) ≤ 1) ∧
(Rng .u64 (shr .u64 (IntKind.wrap .u64 (x9 + x10)) 1)) ∧
((0 : Int) ≤ (IntKind.wrap .i64 (shr .u64 (IntKind.wrap .u64 (x9 + x10)) 1))) ∧
((IntKind.wrap .i64 (shr .u64 (IntKind.wrap .u64 (x9 + x10)) 1)) < (Sl.len s7)) ∧
((Rng .i64 (Sl.int s7 (IntKind.wrap .i64 (shr .u64 (IntKind.wrap .u64 (x9 + x10)) 1)) 0)) →
((Rng .i64 (Sl.int s7 (IntKind.wrap .i64 (shr .u64 (IntKind.wrap .u64 (x9 + x10)) 1)) 1)) →
((Rng .i64 (Sl.int s7 (IntKind.wrap .i64 (shr .u64 (IntKind.wrap .u64 (x9 + x10)) 1)) 2)) →
(((¬ ((Sl.int s7 (IntKind.wrap .i64 (shr .u64 (IntKind.wrap .u64 (x9 + x10)) 1)) 0) > x3)) →
(Rng .i64 ((IntKind.wrap .i64 (shr .u64 (IntKind.wrap .u64 (x9 + x10)) 1)) + 1)) ∧
(J8 ((IntKind.wrap .i64 (shr .u64 (IntKind.wrap .u64 (x9 + x10)) 1)) + 1) x10 ∧ M8 ((IntKind.wrap .i64 (shr .u64 (IntKind.wrap .u64 (x9 + x10)) 1)) + 1) x10 < M8 x9 x10)) ∧
(¬ (¬ ((Sl.int s7 (IntKind.wrap .i64 (shr .u64 (IntKind.wrap .u64 (x9 + x10)) 1)) 0) > x3)) →
(J8 x9 (IntKind.wrap .i64 (shr .u64 (IntKind.wrap .u64 (x9 + x10)) 1)) ∧ M8 x9 (IntKind.wrap .i64 (shr .u64 (IntKind.wrap .u64 (x9 + x10)) 1)) < M8 x9 x10))))))) ∧
(¬ (x9 < x10) →
((0 : Int) ≤ 0) ∧
((0 : Int) ≤ x9) ∧
(x9 ≤ (Sl.len s7)) ∧
((Small (Sl.part s7 0 x9)) →
((((Sl.len (Sl.part s7 0 x9)) = 0) →
(q_LookTwo y0 (decide (b1 = true)) s2 x3 x4 x5 (decide False) Sl.nil (decide False) Sl.nil 6) ∧ True) ∧
(¬ ((Sl.len (Sl.part s7 0 x9)) = 0) →
((Small (Sl.part s7 0 x9)) →
(Rng .i64 ((Sl.len (Sl.part s7 0 x9)) - 1)) ∧
((0 : Int) ≤ ((Sl.len (Sl.part s7 0 x9)) - 1)) ∧
(((Sl.len (Sl.part s7 0 x9)) - 1) < (Sl.len (Sl.part s7 0 x9))) ∧
((Rng .i64 (Sl.int (Sl.part s7 0 x9) ((Sl.len (Sl.part s7 0 x9)) - 1) 0)) →
((Small (Sl.part s7 0 x9)) →
(∃ (J11 : Int → Int → Prop) (M11 : Int → Int → Nat), J11 0 (Sl.len (Sl.part s7 0 x9)) ∧
(∀ x12 : Int,
((Rng .i64 x12) →
(∀ x13 : Int,
((Rng .i64 x13) →
(J11 x12 x13 →
(((x12 < x13) →
(Rng .i64 (x12 + x13)) ∧
((0 : Int) ≤ 1) ∧
(Rng .u64 (shr .u64 (IntKind.wrap .u64 (x12 + x13)) 1)) ∧
((0 : Int) ≤ (IntKind.wrap .i64 (shr .u64 (IntKind.wrap .u64 (x12 + x13)) 1))) ∧
((IntKind.wrap .i64 (shr .u64 (IntKind.wrap .u64 (x12 + x13)) 1)) < (Sl.len (Sl.part s7 0 x9))) ∧
((Rng .i64 (Sl.int (Sl.part s7 0 x9) (IntKind.wrap .i64 (shr .u64 (IntKind.wrap .u64 (x12 + x13)) 1)) 0)) →
((Rng .i64 (Sl.int (Sl.part s7 0 x9) (IntKind.wrap .i64 (shr .u64 (IntKind.wrap .u64 (x12 + x13)) 1)) 1)) →
((Rng .i64 (Sl.int (Sl.part s7 0 x9) (IntKind.wrap .i64 (shr .u64 (IntKind.wrap .u64 (x12 + x13)) 1)) 2)) →
(((¬ ((Sl.int (Sl.part s7 0 x9) (IntKind.wrap .i64 (shr .u64 (IntKind.wrap .u64 (x12 + x13)) 1)) 0) ≥ (Sl.int (Sl.part s7 0 x9) ((Sl.len (Sl.part s7 0 x9)) - 1) 0))) →
(Rng .i64 ((IntKind.wrap .i64 (shr .u64 (IntKind.wrap .u64 (x12 + x13)) 1)) + 1)) ∧
(J11 ((IntKind.wrap .i64 (shr .u64 (IntKind.wrap .u64 (x12 + x13)) 1)) + 1) x13 ∧ M11 ((IntKind.wrap .i64 (shr .u64 (IntKind.wrap .u64 (x12 + x13)) 1)) + 1) x13 < M11 x12 x13)) ∧
(¬ (¬ ((Sl.int (Sl.part s7 0 x9) (IntKind.wrap .i64 (shr .u64 (IntKind.wrap .u64 (x12 + x13)) 1)) 0) ≥ (Sl.int (Sl.part s7 0 x9) ((Sl.len (Sl.part s7 0 x9)) - 1) 0))) →
(J11 x12 (IntKind.wrap .i64 (shr .u64 (IntKind.wrap .u64 (x12 + x13)) 1)) ∧ M11 x12 (IntKind.wrap .i64 (shr .u64 (IntKind.wrap .u64 (x12 + x13)) 1)) < M11 x12 x13))))))) ∧
(¬ (x12 < x13) →
((0 : Int) ≤ 0) ∧
((0 : Int) ≤ x12) ∧
(x12 ≤ (Sl.len (Sl.part s7 0 x9))) ∧
((Small (Sl.part (Sl.part s7 0 x9) 0 x12)) →
((0 : Int) ≤ (Sl.len (Sl.part (Sl.part s7 0 x9) 0 x12))) ∧
((Sl.len (Sl.part (Sl.part s7 0 x9) 0 x12)) ≤ (Sl.len (Sl.part s7 0 x9))) ∧
((Sl.len (Sl.part s7 0 x9)) ≤ (Sl.len (Sl.part s7 0 x9))) ∧
((Small (Sl.part (Sl.part s7 0 x9) (Sl.len (Sl.part (Sl.part s7 0 x9) 0 x12)) (Sl.len (Sl.part s7 0 x9)))) →
(∃ (J14 : Int → Int → Prop) (M14 : Int → Int → Nat), J14 0 (Sl.len (Sl.part (Sl.part s7 0 x9) (Sl.len (Sl.part (Sl.part s7 0 x9) 0 x12)) (Sl.len (Sl.part s7 0 x9)))) ∧
(∀ x15 : Int,
((Rng .i64 x15) →
(∀ x16 : Int,
((Rng .i64 x16) →
(J14 x15 x16 →
(((x15 < x16) →
(Rng .i64 (x15 + x16)) ∧
((0 : Int) ≤ 1) ∧
(Rng .u64 (shr .u64 (IntKind.wrap .u64 (x15 + x16)) 1)) ∧
((0 : Int) ≤ (IntKind.wrap .i64 (shr .u64 (IntKind.wrap .u64 (x15 + x16)) 1))) ∧
((IntKind.wrap .i64 (shr .u64 (IntKind.wrap .u64 (x15 + x16)) 1)) < (Sl.len (Sl.part (Sl.part s7 0 x9) (Sl.len (Sl.part (Sl.part s7 0 x9) 0 x12)) (Sl.len (Sl.part s7 0 x9))))) ∧
((Rng .i64 (Sl.int (Sl.part (Sl.part s7 0 x9) (Sl.len (Sl.part (Sl.part s7 0 x9) 0 x12)) (Sl.len (Sl.part s7 0 x9))) (IntKind.wrap .i64 (shr .u64 (IntKind.wrap .u64 (x15 + x16)) 1)) 0)) →
((Rng .i64 (Sl.int (Sl.part (Sl.part s7 0 x9) (Sl.len (Sl.part (Sl.part s7 0 x9) 0 x12)) (Sl.len (Sl.part s7 0 x9))) (IntKind.wrap .i64 (shr .u64 (IntKind.wrap .u64 (x15 + x16)) 1)) 1)) →
((Rng .i64 (Sl.int (Sl.part (Sl.part s7 0 x9) (Sl.len (Sl.part (Sl.part s7 0 x9) 0 x12)) (Sl.len (Sl.part s7 0 x9))) (IntKind.wrap .i64 (shr .u64 (IntKind.wrap .u64 (x15 + x16)) 1)) 2)) →
(((¬ ((Sl.int (Sl.part (Sl.part s7 0 x9) (Sl.len (Sl.part (Sl.part s7 0 x9) 0 x12)) (Sl.len (Sl.part s7 0 x9))) (IntKind.wrap .i64 (shr .u64 (IntKind.wrap .u64 (x15 + x16)) 1)) 1) > x4)) →
(Rng .i64 ((IntKind.wrap .i64 (shr .u64 (IntKind.wrap .u64 (x15 + x16)) 1)) + 1)) ∧
(J14 ((IntKind.wrap .i64 (shr .u64 (IntKind.wrap .u64 (x15 + x16)) 1)) + 1) x16 ∧ M14 ((IntKind.wrap .i64 (shr .u64 (IntKind.wrap .u64 (x15 + x16)) 1)) + 1) x16 < M14 x15 x16)) ∧
(¬ (¬ ((Sl.int (Sl.part (Sl.part s7 0 x9) (Sl.len (Sl.part (Sl.part s7 0 x9) 0 x12)) (Sl.len (Sl.part s7 0 x9))) (IntKind.wrap .i64 (shr .u64 (IntKind.wrap .u64 (x15 + x16)) 1)) 1) > x4)) →
(J14 x15 (IntKind.wrap .i64 (shr .u64 (IntKind.wrap .u64 (x15 + x16)) 1)) ∧ M14 x15 (IntKind.wrap .i64 (shr .u64 (IntKind.wrap .u64 (x15 + x16)) 1)) < M14 x15 x16))))))) ∧
(¬ (x15 < x16) →
((0 : Int) ≤ 0) ∧
((0 : Int) ≤ x15) ∧
(x15 ≤ (Sl.len (Sl.part (Sl.part s7 0 x9) (Sl.len (Sl.part (Sl.part s7 0 x9) 0 x12)) (Sl.len (Sl.part s7 0 x9))))) ∧
((Small (Sl.part (Sl.part (Sl.part s7 0 x9) (Sl.len (Sl.part (Sl.part s7 0 x9) 0 x12)) (Sl.len (Sl.part s7 0 x9))) 0 x15)) →
((((Sl.len (Sl.part (Sl.part (Sl.part s7 0 x9) (Sl.len (Sl.part (Sl.part s7 0 x9) 0 x12)) (Sl.len (Sl.part s7 0 x9))) 0 x15)) = 0) →
(q_LookTwo y0 (decide (b1 = true)) s2 x3 x4 x5 (decide False) Sl.nil (decide False) Sl.nil 6) ∧ True) ∧
(¬ ((Sl.len (Sl.part (Sl.part (Sl.part s7 0 x9) (Sl.len (Sl.part (Sl.part s7 0 x9) 0 x12)) (Sl.len (Sl.part s7 0 x9))) 0 x15)) = 0) →
((Small (Sl.part (Sl.part (Sl.part s7 0 x9) (Sl.len (Sl.part (Sl.part s7 0 x9) 0 x12)) (Sl.len (Sl.part s7 0 x9))) 0 x15)) →
(Rng .i64 ((Sl.len (Sl.part (Sl.part (Sl.part s7 0 x9) (Sl.len (Sl.part (Sl.part s7 0 x9) 0 x12)) (Sl.len (Sl.part s7 0 x9))) 0 x15)) - 1)) ∧
((0 : Int) ≤ ((Sl.len (Sl.part (Sl.part (Sl.part s7 0 x9) (Sl.len (Sl.part (Sl.part s7 0 x9) 0 x12)) (Sl.len (Sl.part s7 0 x9))) 0 x15)) - 1)) ∧
(((Sl.len (Sl.part (Sl.part (Sl.part s7 0 x9) (Sl.len (Sl.part (Sl.part s7 0 x9) 0 x12)) (Sl.len (Sl.part s7 0 x9))) 0 x15)) - 1) < (Sl.len (Sl.part (Sl.part (Sl.part s7 0 x9) (Sl.len (Sl.part (Sl.part s7 0 x9) 0 x12)) (Sl.len (Sl.part s7 0 x9))) 0 x15))) ∧
(p_copied (decide (Sl.bool (Sl.part (Sl.part (Sl.part s7 0 x9) (Sl.len (Sl.part (Sl.part s7 0 x9) 0 x12)) (Sl.len (Sl.part s7 0 x9))) 0 x15) ((Sl.len (Sl.part (Sl.part (Sl.part s7 0 x9) (Sl.len (Sl.part (Sl.part s7 0 x9) 0 x12)) (Sl.len (Sl.part s7 0 x9))) 0 x15)) - 1) 3 = true)) (Sl.sub (Sl.part (Sl.part (Sl.part s7 0 x9) (Sl.len (Sl.part (Sl.part s7 0 x9) 0 x12)) (Sl.len (Sl.part s7 0 x9))) 0 x15) ((Sl.len (Sl.part (Sl.part (Sl.part s7 0 x9) (Sl.len (Sl.part (Sl.part s7 0 x9) 0 x12)) (Sl.len (Sl.part s7 0 x9))) 0 x15)) - 1) 4) (decide (Sl.bool (Sl.part (Sl.part (Sl.part s7 0 x9) (Sl.len (Sl.part (Sl.part s7 0 x9) 0 x12)) (Sl.len (Sl.part s7 0 x9))) 0 x15) ((Sl.len (Sl.part (Sl.part (Sl.part s7 0 x9) (Sl.len (Sl.part (Sl.part s7 0 x9) 0 x12)) (Sl.len (Sl.part s7 0 x9))) 0 x15)) - 1) 5 = true)) (Sl.sub (Sl.part (Sl.part (Sl.part s7 0 x9) (Sl.len (Sl.part (Sl.part s7 0 x9) 0 x12)) (Sl.len (Sl.part s7 0 x9))) 0 x15) ((Sl.len (Sl.part (Sl.part (Sl.part s7 0 x9) (Sl.len (Sl.part (Sl.part s7 0 x9) 0 x12)) (Sl.len (Sl.part s7 0 x9))) 0 x15)) - 1) 6)) ∧
(∀ b17 : Bool,
(∀ s18 : Sl,
(∀ b19 : Bool,
(∀ s20 : Sl,
((q_copied (decide (Sl.bool (Sl.part (Sl.part (Sl.part s7 0 x9) (Sl.len (Sl.part (Sl.part s7 0 x9) 0 x12)) (Sl.len (Sl.part s7 0 x9))) 0 x15) ((Sl.len (Sl.part (Sl.part (Sl.part s7 0 x9) (Sl.len (Sl.part (Sl.part s7 0 x9) 0 x12)) (Sl.len (Sl.part s7 0 x9))) 0 x15)) - 1) 3 = true)) (Sl.sub (Sl.part (Sl.part (Sl.part s7 0 x9) (Sl.len (Sl.part (Sl.part s7 0 x9) 0 x12)) (Sl.len (Sl.part s7 0 x9))) 0 x15) ((Sl.len (Sl.part (Sl.part (Sl.part s7 0 x9) (Sl.len (Sl.part (Sl.part s7 0 x9) 0 x12)) (Sl.len (Sl.part s7 0 x9))) 0 x15)) - 1) 4) (decide (Sl.bool (Sl.part (Sl.part (Sl.part s7 0 x9) (Sl.len (Sl.part (Sl.part s7 0 x9) 0 x12)) (Sl.len (Sl.part s7 0 x9))) 0 x15) ((Sl.len (Sl.part (Sl.part (Sl.part s7 0 x9) (Sl.len (Sl.part (Sl.part s7 0 x9) 0 x12)) (Sl.len (Sl.part s7 0 x9))) 0 x15)) - 1) 5 = true)) (Sl.sub (Sl.part (Sl.part (Sl.part s7 0 x9) (Sl.len (Sl.part (Sl.part s7 0 x9) 0 x12)) (Sl.len (Sl.part s7 0 x9))) 0 x15) ((Sl.len (Sl.part (Sl.part (Sl.part s7 0 x9) (Sl.len (Sl.part (Sl.part s7 0 x9) 0 x12)) (Sl.len (Sl.part s7 0 x9))) 0 x15)) - 1) 6) (decide (b17 = true)) s18 (decide (b19 = true)) s20) →
(q_LookTwo y0 (decide (b1 = true)) s2 x3 x4 x5 (decide (b17 = true)) s18 (decide (b19 = true)) s20 0) ∧ True))))))))))))))))))))))))))))))))))))))))))))))))))))))))))))
def V_kSameRow : Prop :=
(∀ x0 : Int,
((Rng .i64 x0) →
(∀ x1 : Int,
((Rng .i64 x1) →
(∀ x2 : Int,
((Rng .i64 x2) →
(∀ b3 : Bool,
(∀ s4 : Sl,
((Ranged s4 [some .u16]) →
(∀ b5 : Bool,
(∀ s6 : Sl,
((Ranged s6 [some .u16]) →
(∀ x7 : Int,
((Rng .i64 x7) →
(∀ x8 : Int,
((Rng .i64 x8) →
(∀ x9 : Int,
((Rng .i64 x9) →
(∀ b10 : Bool,
(∀ s11 : Sl,
((Ranged s11 [some .u16]) →
(∀ b12 : Bool,
(∀ s13 : Sl,
((Ranged s13 [some .u16]) →
((p_kSameRow x0 x1 x2 (decide (b3 = true)) s4 (decide (b5 = true)) s6 x7 x8 x9 (decide (b10 = true)) s11 (decide (b12 = true)) s13) →
(((x0 = x7) →
(((x1 = x8) →
(((x2 = x9) →
(p_kSameFrac (decide (b3 = true)) s4 (decide (b5 = true)) s6 (decide (b10 = true)) s11 (decide (b12 = true)) s13) ∧
(∀ b14 : Bool,
((q_kSameFrac (decide (b3 = true)) s4 (decide (b5 = true)) s6 (decide (b10 = true)) s11 (decide (b12 = true)) s13 (decide (b14 = true))) →
(q_kSameRow x0 x1 x2 (decide (b3 = true)) s4 (decide (b5 = true)) s6 x7 x8 x9 (decide (b10 = true)) s11 (decide (b12 = true)) s13 (decide (b14 = true))) ∧ True))) ∧
(¬ (x2 = x9) →
(q_kSameRow x0 x1 x2 (decide (b3 = true)) s4 (decide (b5 = true)) s6 x7 x8 x9 (decide (b10 = true)) s11 (decide (b12 = true)) s13 (decide False)) ∧ True))) ∧
(¬ (x1 = x8) →
(q_kSameRow x0 x1 x2 (decide (b3 = true)) s4 (decide (b5 = true)) s6 x7 x8 x9 (decide (b10 = true)) s11 (decide (b12 = true)) s13 (decide False)) ∧ True))) ∧
(¬ (x0 = x7) →
(q_kSameRow x0 x1 x2 (decide (b3 = true)) s4 (decide (b5 = true)) s6 x7 x8 x9 (decide (b10 = true)) s11 (decide (b12 = true)) s13 (decide False)) ∧ True)))))))))))))))))))))))))))
def V_kSameRows : Prop :=
(∀ s0 : Sl,
((Ranged s0 [some .i64, some .i64, some .i64, none, none, none, none]) →
(∀ s1 : Sl,
((Ranged s1 [some .i64, some .i64, some .i64, none, none, none, none]) →
((p_kSameRows s0 s1) →
((Small s0) →
((Small s1) →
((((Sl.len s0) ≠ (Sl.len s1)) →
(q_kSameRows s0 s1 (decide False)) ∧ True) ∧
(¬ ((Sl.len s0) ≠ (Sl.len s1)) →
(∃ (J2 : Int → Prop) (M2 : Int → Nat), J2 0 ∧
(∀ x3 : Int,
((Rng .i64 x3) →
(J2 x3 →
((Small s0) →
(((x3 < (Sl.len s0)) →
((0 : Int) ≤ x3) ∧
(x3 < (Sl.len s0)) ∧
((0 : Int) ≤ x3) ∧
(x3 < (Sl.len s1)) ∧
((((Rng .i64 (Sl.int s0 x3 0)) →
((Rng .i64 (Sl.int s0 x3 1)) →
((Rng .i64 (Sl.int s0 x3 2)) →
((Ranged (Sl.sub s0 x3 4) [some .u16]) →
((Ranged (Sl.sub s0 x3 6) [some .u16]) →
((Rng .i64 (Sl.int s1 x3 0)) →
((Rng .i64 (Sl.int s1 x3 1)) →
((Rng .i64 (Sl.int s1 x3 2)) →
((Ranged (Sl.sub s1 x3 4) [some .u16]) →
((Ranged (Sl.sub s1 x3 6) [some .u16]) →
(p_kSameRow (Sl.int s0 x3 0) (Sl.int s0 x3 1) (Sl.int s0 x3 2) (decide (Sl.bool s0 x3 3 = true)) (Sl.sub s0 x3 4) (decide (Sl.bool s0 x3 5 = true)) (Sl.sub s0 x3 6) (Sl.int s1 x3 0) (Sl.int s1 x3 1) (Sl.int s1 x3 2) (decide (Sl.bool s1 x3 3 = true)) (Sl.sub s1 x3 4) (decide (Sl.bool s1 x3 5 = true)) (Sl.sub s1 x3 6)) ∧
(∀ b4 : Bool,
((q_kSameRow (Sl.int s0 x3 0) (Sl.int s0 x3 1) (Sl.int s0 x3 2) (decide (Sl.bool s0 x3 3 = true)) (Sl.sub s0 x3 4) (decide (Sl.bool s0 x3 5 = true)) (Sl.sub s0 x3 6) (Sl.int s1 x3 0) (Sl.int s1 x3 1) (Sl.int s1 x3 2) (decide (Sl.bool s1 x3 3 = true)) (Sl.sub s1 x3 4) (decide (Sl.bool s1 x3 5 = true)) (Sl.sub s1 x3 6) (decide (b4 = true))) →
(((¬ (b4 = true)) →
(q_kSameRows s0 s1 (decide False)) ∧ True) ∧
(¬ (¬ (b4 = true)) →
(Rng .i64 (x3 + 1)) ∧
(J2 (x3 + 1) ∧ M2 (x3 + 1) < M2 x3)))))))))))))))) ∧
(((Rng .i64 (Sl.int s1 x3 0)) →
((Rng .i64 (Sl.int s1 x3 1)) →
((Rng .i64 (Sl.int s1 x3 2)) →
((Ranged (Sl.sub s1 x3 4) [some .u16]) →
((Ranged (Sl.sub s1 x3 6) [some .u16]) →
((Rng .i64 (Sl.int s0 x3 0)) →
((Rng .i64 (Sl.int s0 x3 1)) →
((Rng .i64 (Sl.int s0 x3 2)) →
((Ranged (Sl.sub s0 x3 4) [some .u16]) →
((Ranged (Sl.sub s0 x3 6) [some .u16]) →
(p_kSameRow (Sl.int s0 x3 0) (Sl.int s0 x3 1) (Sl.int s0 x3 2) (decide (Sl.bool s0 x3 3 = true)) (Sl.sub s0 x3 4) (decide (Sl.bool s0 x3 5 = true)) (Sl.sub s0 x3 6) (Sl.int s1 x3 0) (Sl.int s1 x3 1) (Sl.int s1 x3 2) (decide (Sl.bool s1 x3 3 = true)) (Sl.sub s1 x3 4) (decide (Sl.bool s1 x3 5 = true)) (Sl.sub s1 x3 6)) ∧
(∀ b4 : Bool,
((q_kSameRow (Sl.int s0 x3 0) (Sl.int s0 x3 1) (Sl.int s0 x3 2) (decide (Sl.bool s0 x3 3 = true)) (Sl.sub s0 x3 4) (decide (Sl.bool s0 x3 5 = true)) (Sl.sub s0 x3 6) (Sl.int s1 x3 0) (Sl.int s1 x3 1) (Sl.int s1 x3 2) (decide (Sl.bool s1 x3 3 = true)) (Sl.sub s1 x3 4) (decide (Sl.bool s1 x3 5 = true)) (Sl.sub s1 x3 6) (decide (b4 = true))) →
(((¬ (b4 = true)) →
(q_kSameRows s0 s1 (decide False)) ∧ True) ∧
(¬ (¬ (b4 = true)) →
(Rng .i64 (x3 + 1)) ∧
(J2 (x3 + 1) ∧ M2 (x3 + 1) < M2 x3)))))))))))))))))) ∧
(¬ (x3 < (Sl.len s0)) →
(q_kSameRows s0 s1 (decide True)) ∧ True))))))))))))))))
def V_kSameTable : Prop :=
(∀ y0 : ByteArray,
(∀ b1 : Bool,
(∀ s2 : Sl,
((Ranged s2 [some .i64, some .i64, some .i64, none, none, none, none]) →
(∀ y3 : ByteArray,
(∀ b4 : Bool,
(∀ s5 : Sl,
((Ranged s5 [some .i64, some .i64, some .i64, none, none, none, none]) →
((p_kSameTable y0 (decide (b1 = true)) s2 y3 (decide (b4 = true)) s5) →
(((y0 = y3) →
((((b1 = true) ↔ (b4 = true)) →
(p_kSameRows s2 s5) ∧
(∀ b6 : Bool,
((q_kSameRows s2 s5 (decide (b6 = true))) →
(q_kSameTable y0 (decide (b1 = true)) s2 y3 (decide (b4 = true)) s5 (decide (b6 = true))) ∧ True))) ∧
(¬ ((b1 = true) ↔ (b4 = true)) →
(q_kSameTable y0 (decide (b1 = true)) s2 y3 (decide (b4 = true)) s5 (decide False)) ∧ True))) ∧
(¬ (y0 = y3) →
(q_kSameTable y0 (decide (b1 = true)) s2 y3 (decide (b4 = true)) s5 (decide False)) ∧ True)))))))))))
def V_tRow : Prop :=
(∀ x0 : Int,
((Rng .i64 x0) →
(∀ x1 : Int,
((Rng .i64 x1) →
(∀ x2 : Int,
((Rng .i64 x2) →
(∀ x3 : Int,
((Rng .i64 x3) →
(∀ x4 : Int,
((Rng .i64 x4) →
((p_tRow x0 x1 x2 x3 x4) →
(p_kFrac x3 x4) ∧
(∀ b5 : Bool,
(∀ s6 : Sl,
((Ranged s6 [some .u16]) →
(∀ b7 : Bool,
(∀ s8 : Sl,
((Ranged s8 [some .u16]) →
((q_kFrac x3 x4 (decide (b5 = true)) s6 (decide (b7 = true)) s8) →
(q_tRow x0 x1 x2 x3 x4 x0 x1 x2 (decide (b5 = true)) s6 (decide (b7 = true)) s8) ∧ True))))))))))))))))))
def V_awake : Prop :=
((p_awake ) →
(p_tRow 0 0 0 1 10) ∧
(∀ x0 : Int,
((Rng .i64 x0) →
(∀ x1 : Int,
((Rng .i64 x1) →
(∀ x2 : Int,
((Rng .i64 x2) →
(∀ b3 : Bool,
(∀ s4 : Sl,
((Ranged s4 [some .u16]) →
(∀ b5 : Bool,
(∀ s6 : Sl,
((Ranged s6 [some .u16]) →
((q_tRow 0 0 0 1 10 x0 x1 x2 (decide (b3 = true)) s4 (decide (b5 = true)) s6) →
(p_tRow 30 0 0 1 5) ∧
(∀ x7 : Int,
((Rng .i64 x7) →
(∀ x8 : Int,
((Rng .i64 x8) →
(∀ x9 : Int,
((Rng .i64 x9) →
(∀ b10 : Bool,
(∀ s11 : Sl,
((Ranged s11 [some .u16]) →
(∀ b12 : Bool,
(∀ s13 : Sl,
((Ranged s13 [some .u16]) →
((q_tRow 30 0 0 1 5 x7 x8 x9 (decide (b10 = true)) s11 (decide (b12 = true)) s13) →
(p_tRow 30 0 100 1 4) ∧
(∀ x14 : Int,
((Rng .i64 x14) →
(∀ x15 : Int,
((Rng .i64 x15) →
(∀ x16 : Int,
((Rng .i64 x16) →
(∀ b17 : Bool,
(∀ s18 : Sl,
((Ranged s18 [some .u16]) →
(∀ b19 : Bool,
(∀ s20 : Sl,
((Ranged s20 [some .u16]) →
((q_tRow 30 0 100 1 4 x14 x15 x16 (decide (b17 = true)) s18 (decide (b19 = true)) s20) →
(p_tRow 60 0 0 1 2) ∧
(∀ x21 : Int,
((Rng .i64 x21) →
(∀ x22 : Int,
((Rng .i64 x22) →
(∀ x23 : Int,
((Rng .i64 x23) →
(∀ b24 : Bool,
(∀ s25 : Sl,
((Ranged s25 [some .u16]) →
(∀ b26 : Bool,
(∀ s27 : Sl,
((Ranged s27 [some .u16]) →
((q_tRow 60 0 0 1 2 x21 x22 x23 (decide (b24 = true)) s25 (decide (b26 = true)) s27) →
(p_tRow 1 0 0 1 1) ∧
(∀ x28 : Int,
((Rng .i64 x28) →
(∀ x29 : Int,
((Rng .i64 x29) →
(∀ x30 : Int,
((Rng .i64 x30) →
(∀ b31 : Bool,
(∀ s32 : Sl,
((Ranged s32 [some .u16]) →
(∀ b33 : Bool,
(∀ s34 : Sl,
((Ranged s34 [some .u16]) →
((q_tRow 1 0 0 1 1 x28 x29 x30 (decide (b31 = true)) s32 (decide (b33 = true)) s34) →
(p_tRow 1 5 0 2 1) ∧
(∀ x35 : Int,
((Rng .i64 x35) →
(∀ x36 : Int,
((Rng .i64 x36) →
(∀ x37 : Int,
((Rng .i64 x37) →
(∀ b38 : Bool,
(∀ s39 : Sl,
((Ranged s39 [some .u16]) →
(∀ b40 : Bool,
(∀ s41 : Sl,
((Ranged s41 [some .u16]) →
((q_tRow 1 5 0 2 1 x35 x36 x37 (decide (b38 = true)) s39 (decide (b40 = true)) s41) →
(p_tRow 3 2 0 3 1) ∧
(∀ x42 : Int,
((Rng .i64 x42) →
(∀ x43 : Int,
((Rng .i64 x43) →
(∀ x44 : Int,
((Rng .i64 x44) →
(∀ b45 : Bool,
(∀ s46 : Sl,
((Ranged s46 [some .u16]) →
(∀ b47 : Bool,
(∀ s48 : Sl,
((Ranged s48 [some .u16]) →
((q_tRow 3 2 0 3 1 x42 x43 x44 (decide (b45 = true)) s46 (decide (b47 = true)) s48) →
(p_Look (bytes [97, 103, 101]) (decide False) (Sl.lit [[(.int x0), (.int x1), (.int x2), (.bool (decide (b3 = true))), (Sl.d s4), (.bool (decide (b5 = true))), (Sl.d s6)], [(.int x7), (.int x8), (.int x9), (.bool (decide (b10 = true))), (Sl.d s11), (.bool (decide (b12 = true))), (Sl.d s13)], [(.int x14), (.int x15), (.int x16), (.bool (decide (b17 = true))), (Sl.d s18), (.bool (decide (b19 = true))), (Sl.d s20)], [(.int x21), (.int x22), (.int x23), (.bool (decide (b24 = true))), (Sl.d s25), (.bool (decide (b26 = true))), (Sl.d s27)]]) (-1) 50) ∧
(∀ b49 : Bool,
(∀ s50 : Sl,
((Ranged s50 [some .u16]) →
(∀ b51 : Bool,
(∀ s52 : Sl,
((Ranged s52 [some .u16]) →
(∀ x53 : Int,
((Rng .i64 x53) →
((q_Look (bytes [97, 103, 101]) (decide False) (Sl.lit [[(.int x0), (.int x1), (.int x2), (.bool (decide (b3 = true))), (Sl.d s4), (.bool (decide (b5 = true))), (Sl.d s6)], [(.int x7), (.int x8), (.int x9), (.bool (decide (b10 = true))), (Sl.d s11), (.bool (decide (b12 = true))), (Sl.d s13)], [(.int x14), (.int x15), (.int x16), (.bool (decide (b17 = true))), (Sl.d s18), (.bool (decide (b19 = true))), (Sl.d s20)], [(.int x21), (.int x22), (.int x23), (.bool (decide (b24 = true))), (Sl.d s25), (.bool (decide (b26 = true))), (Sl.d s27)]]) (-1) 50 (decide (b49 = true)) s50 (decide (b51 = true)) s52 x53) →
(p_LookTwo (bytes [116, 119, 111]) (decide True) (Sl.lit [[(.int x28), (.int x29), (.int x30), (.bool (decide (b31 = true))), (Sl.d s32), (.bool (decide (b33 = true))), (Sl.d s34)], [(.int x35), (.int x36), (.int x37), (.bool (decide (b38 = true))), (Sl.d s39), (.bool (decide (b40 = true))), (Sl.d s41)], [(.int x42), (.int x43), (.int x44), (.bool (decide (b45 = true))), (Sl.d s46), (.bool (decide (b47 = true))), (Sl.d s48)]]) 3 1 0) ∧
(∀ b54 : Bool,
(∀ s55 : Sl,
((Ranged s55 [some .u16]) →
(∀ b56 : Bool,
(∀ s57 : Sl,
((Ranged s57 [some .u16]) →
(∀ x58 : Int,
((Rng .i64 x58) →
((q_LookTwo (bytes [116, 119, 111]) (decide True) (Sl.lit [[(.int x28), (.int x29), (.int x30), (.bool (decide (b31 = true))), (Sl.d s32), (.bool (decide (b33 = true))), (Sl.d s34)], [(.int x35), (.int x36), (.int x37), (.bool (decide (b38 = true))), (Sl.d s39), (.bool (decide (b40 = true))), (Sl.d s41)], [(.int x42), (.int x43), (.int x44), (.bool (decide (b45 = true))), (Sl.d s46), (.bool (decide (b47 = true))), (Sl.d s48)]]) 3 1 0 (decide (b54 = true)) s55 (decide (b56 = true)) s57 x58) →
(((x53 ≠ 6) →
(q_awake  (decide False)) ∧ True) ∧
(¬ (x53 ≠ 6) →
(((x58 ≠ 6) →
(q_awake  (decide False)) ∧ True) ∧
(¬ (x58 ≠ 6) →
(p_Look (bytes [97, 103, 101]) (decide False) (Sl.lit [[(.int x0), (.int x1), (.int x2), (.bool (decide (b3 = true))), (Sl.d s4), (.bool (decide (b5 = true))), (Sl.d s6)], [(.int x7), (.int x8), (.int x9), (.bool (decide (b10 = true))), (Sl.d s11), (.bool (decide (b12 = true))), (Sl.d s13)], [(.int x14), (.int x15), (.int x16), (.bool (decide (b17 = true))), (Sl.d s18), (.bool (decide (b19 = true))), (Sl.d s20)], [(.int x21), (.int x22), (.int x23), (.bool (decide (b24 = true))), (Sl.d s25), (.bool (decide (b26 = true))), (Sl.d s27)]]) 35 50) ∧
(∀ b59 : Bool,
(∀ s60 : Sl,
((Ranged s60 [some .u16]) →
(∀ b61 : Bool,
(∀ s62 : Sl,
((Ranged s62 [some .u16]) →
(∀ x63 : Int,
((Rng .i64 x63) →
((q_Look (bytes [97, 103, 101]) (decide False) (Sl.lit [[(.int x0), (.int x1), (.int x2), (.bool (decide (b3 = true))), (Sl.d s4), (.bool (decide (b5 = true))), (Sl.d s6)], [(.int x7), (.int x8), (.int x9), (.bool (decide (b10 = true))), (Sl.d s11), (.bool (decide (b12 = true))), (Sl.d s13)], [(.int x14), (.int x15), (.int x16), (.bool (decide (b17 = true))), (Sl.d s18), (.bool (decide (b19 = true))), (Sl.d s20)], [(.int x21), (.int x22), (.int x23), (.bool (decide (b24 = true))), (Sl.d s25), (.bool (decide (b26 = true))), (Sl.d s27)]]) 35 50 (decide (b59 = true)) s60 (decide (b61 = true)) s62 x63) →
(((x63 = 0) →
(p_kFrac 1 5) ∧
(∀ b64 : Bool,
(∀ s65 : Sl,
((Ranged s65 [some .u16]) →
(∀ b66 : Bool,
(∀ s67 : Sl,
((Ranged s67 [some .u16]) →
((q_kFrac 1 5 (decide (b64 = true)) s65 (decide (b66 = true)) s67) →
(p_kSameFrac (decide (b59 = true)) s60 (decide (b61 = true)) s62 (decide (b64 = true)) s65 (decide (b66 = true)) s67) ∧
(∀ b68 : Bool,
((q_kSameFrac (decide (b59 = true)) s60 (decide (b61 = true)) s62 (decide (b64 = true)) s65 (decide (b66 = true)) s67 (decide (b68 = true))) →
(((b68 = true) →
(p_Look (bytes [97, 103, 101]) (decide False) (Sl.lit [[(.int x0), (.int x1), (.int x2), (.bool (decide (b3 = true))), (Sl.d s4), (.bool (decide (b5 = true))), (Sl.d s6)], [(.int x7), (.int x8), (.int x9), (.bool (decide (b10 = true))), (Sl.d s11), (.bool (decide (b12 = true))), (Sl.d s13)], [(.int x14), (.int x15), (.int x16), (.bool (decide (b17 = true))), (Sl.d s18), (.bool (decide (b19 = true))), (Sl.d s20)], [(.int x21), (.int x22), (.int x23), (.bool (decide (b24 = true))), (Sl.d s25), (.bool (decide (b26 = true))), (Sl.d s27)]]) 35 100) ∧
(∀ b69 : Bool,
(∀ s70 : Sl,
((Ranged s70 [some .u16]) →
(∀ b71 : Bool,
(∀ s72 : Sl,
((Ranged s72 [some .u16]) →
(∀ x73 : Int,
((Rng .i64 x73) →
((q_Look (bytes [97, 103, 101]) (decide False) (Sl.lit [[(.int x0), (.int x1), (.int x2), (.bool (decide (b3 = true))), (Sl.d s4), (.bool (decide (b5 = true))), (Sl.d s6)], [(.int x7), (.int x8), (.int x9), (.bool (decide (b10 = true))), (Sl.d s11), (.bool (decide (b12 = true))), (Sl.d s13)], [(.int x14), (.int x15), (.int x16), (.bool (decide (b17 = true))), (Sl.d s18), (.bool (decide (b19 = true))), (Sl.d s20)], [(.int x21), (.int x22), (.int x23), (.bool (decide (b24 = true))), (Sl.d s25), (.bool (decide (b26 = true))), (Sl.d s27)]]) 35 100 (decide (b69 = true)) s70 (decide (b71 = true)) s72 x73) →
(((x73 = 0) →
(p_kFrac 1 4) ∧
(∀ b74 : Bool,
(∀ s75 : Sl,
((Ranged s75 [some .u16]) →
(∀ b76 : Bool,
(∀ s77 : Sl,
((Ranged s77 [some .u16]) →
((q_kFrac 1 4 (decide (b74 = true)) s75 (decide (b76 = true)) s77) →
(p_kSameFrac (decide (b69 = true)) s70 (decide (b71 = true)) s72 (decide (b74 = true)) s75 (decide (b76 = true)) s77) ∧
(∀ b78 : Bool,
((q_kSameFrac (decide (b69 = true)) s70 (decide (b71 = true)) s72 (decide (b74 = true)) s75 (decide (b76 = true)) s77 (decide (b78 = true))) →
(((b78 = true) →
(p_Look (bytes [97, 103, 101]) (decide False) (Sl.lit [[(.int x0), (.int x1), (.int x2), (.bool (decide (b3 = true))), (Sl.d s4), (.bool (decide (b5 = true))), (Sl.d s6)], [(.int x7), (.int x8), (.int x9), (.bool (decide (b10 = true))), (Sl.d s11), (.bool (decide (b12 = true))), (Sl.d s13)], [(.int x14), (.int x15), (.int x16), (.bool (decide (b17 = true))), (Sl.d s18), (.bool (decide (b19 = true))), (Sl.d s20)], [(.int x21), (.int x22), (.int x23), (.bool (decide (b24 = true))), (Sl.d s25), (.bool (decide (b26 = true))), (Sl.d s27)]]) 60 0) ∧
(∀ b79 : Bool,
(∀ s80 : Sl,
((Ranged s80 [some .u16]) →
(∀ b81 : Bool,
(∀ s82 : Sl,
((Ranged s82 [some .u16]) →
(∀ x83 : Int,
((Rng .i64 x83) →
((q_Look (bytes [97, 103, 101]) (decide False) (Sl.lit [[(.int x0), (.int x1), (.int x2), (.bool (decide (b3 = true))), (Sl.d s4), (.bool (decide (b5 = true))), (Sl.d s6)], [(.int x7), (.int x8), (.int x9), (.bool (decide (b10 = true))), (Sl.d s11), (.bool (decide (b12 = true))), (Sl.d s13)], [(.int x14), (.int x15), (.int x16), (.bool (decide (b17 = true))), (Sl.d s18), (.bool (decide (b19 = true))), (Sl.d s20)], [(.int x21), (.int x22), (.int x23), (.bool (decide (b24 = true))), (Sl.d s25), (.bool (decide (b26 = true))), (Sl.d s27)]]) 60 0 (decide (b79 = true)) s80 (decide (b81 = true)) s82 x83) →
(((x83 = 0) →
(p_kFrac 1 2) ∧
(∀ b84 : Bool,
(∀ s85 : Sl,
((Ranged s85 [some .u16]) →
(∀ b86 : Bool,
(∀ s87 : Sl,
((Ranged s87 [some .u16]) →
((q_kFrac 1 2 (decide (b84 = true)) s85 (decide (b86 = true)) s87) →
(p_kSameFrac (decide (b79 = true)) s80 (decide (b81 = true)) s82 (decide (b84 = true)) s85 (decide (b86 = true)) s87) ∧
(∀ b88 : Bool,
((q_kSameFrac (decide (b79 = true)) s80 (decide (b81 = true)) s82 (decide (b84 = true)) s85 (decide (b86 = true)) s87 (decide (b88 = true))) →
(((b88 = true) →
(p_LookTwo (bytes [116, 119, 111]) (decide True) (Sl.lit [[(.int x28), (.int x29), (.int x30), (.bool (decide (b31 = true))), (Sl.d s32), (.bool (decide (b33 = true))), (Sl.d s34)], [(.int x35), (.int x36), (.int x37), (.bool (decide (b38 = true))), (Sl.d s39), (.bool (decide (b40 = true))), (Sl.d s41)], [(.int x42), (.int x43), (.int x44), (.bool (decide (b45 = true))), (Sl.d s46), (.bool (decide (b47 = true))), (Sl.d s48)]]) 2 7 0) ∧
(∀ b89 : Bool,
(∀ s90 : Sl,
((Ranged s90 [some .u16]) →
(∀ b91 : Bool,
(∀ s92 : Sl,
((Ranged s92 [some .u16]) →
(∀ x93 : Int,
((Rng .i64 x93) →
((q_LookTwo (bytes [116, 119, 111]) (decide True) (Sl.lit [[(.int x28), (.int x29), (.int x30), (.bool (decide (b31 = true))), (Sl.d s32), (.bool (decide (b33 = true))), (Sl.d s34)], [(.int x35), (.int x36), (.int x37), (.bool (decide (b38 = true))), (Sl.d s39), (.bool (decide (b40 = true))), (Sl.d s41)], [(.int x42), (.int x43), (.int x44), (.bool (decide (b45 = true))), (Sl.d s46), (.bool (decide (b47 = true))), (Sl.d s48)]]) 2 7 0 (decide (b89 = true)) s90 (decide (b91 = true)) s92 x93) →
(((x93 = 0) →
(p_kFrac 2 1) ∧
(∀ b94 : Bool,
(∀ s95 : Sl,
((Ranged s95 [some .u16]) →
(∀ b96 : Bool,
(∀ s97 : Sl,
((Ranged s97 [some .u16]) →
((q_kFrac 2 1 (decide (b94 = true)) s95 (decide (b96 = true)) s97) →
(p_kSameFrac (decide (b89 = true)) s90 (decide (b91 = true)) s92 (decide (b94 = true)) s95 (decide (b96 = true)) s97) ∧
(∀ b98 : Bool,
((q_kSameFrac (decide (b89 = true)) s90 (decide (b91 = true)) s92 (decide (b94 = true)) s95 (decide (b96 = true)) s97 (decide (b98 = true))) →
(((b98 = true) →
(p_LookTwo (bytes [116, 119, 111]) (decide True) (Sl.lit [[(.int x28), (.int x29), (.int x30), (.bool (decide (b31 = true))), (Sl.d s32), (.bool (decide (b33 = true))), (Sl.d s34)], [(.int x35), (.int x36), (.int x37), (.bool (decide (b38 = true))), (Sl.d s39), (.bool (decide (b40 = true))), (Sl.d s41)], [(.int x42), (.int x43), (.int x44), (.bool (decide (b45 = true))), (Sl.d s46), (.bool (decide (b47 = true))), (Sl.d s48)]]) 5 2 0) ∧
(∀ b99 : Bool,
(∀ s100 : Sl,
((Ranged s100 [some .u16]) →
(∀ b101 : Bool,
(∀ s102 : Sl,
((Ranged s102 [some .u16]) →
(∀ x103 : Int,
((Rng .i64 x103) →
((q_LookTwo (bytes [116, 119, 111]) (decide True) (Sl.lit [[(.int x28), (.int x29), (.int x30), (.bool (decide (b31 = true))), (Sl.d s32), (.bool (decide (b33 = true))), (Sl.d s34)], [(.int x35), (.int x36), (.int x37), (.bool (decide (b38 = true))), (Sl.d s39), (.bool (decide (b40 = true))), (Sl.d s41)], [(.int x42), (.int x43), (.int x44), (.bool (decide (b45 = true))), (Sl.d s46), (.bool (decide (b47 = true))), (Sl.d s48)]]) 5 2 0 (decide (b99 = true)) s100 (decide (b101 = true)) s102 x103) →
(((x103 = 0) →
(p_kFrac 3 1) ∧
(∀ b104 : Bool,
(∀ s105 : Sl,
((Ranged s105 [some .u16]) →
(∀ b106 : Bool,
(∀ s107 : Sl,
((Ranged s107 [some .u16]) →
((q_kFrac 3 1 (decide (b104 = true)) s105 (decide (b106 = true)) s107) →
(p_kSameFrac (decide (b99 = true)) s100 (decide (b101 = true)) s102 (decide (b104 = true)) s105 (decide (b106 = true)) s107) ∧
(∀ b108 : Bool,
((q_kSameFrac (decide (b99 = true)) s100 (decide (b101 = true)) s102 (decide (b104 = true)) s105 (decide (b106 = true)) s107 (decide (b108 = true))) →
(q_awake  (decide (b108 = true))) ∧ True)))))))))) ∧
(¬ (x103 = 0) →
(q_awake  (decide False)) ∧ True)))))))))))) ∧
(¬ (b98 = true) →
(q_awake  (decide False)) ∧ True)))))))))))) ∧
(¬ (x93 = 0) →
(q_awake  (decide False)) ∧ True)))))))))))) ∧
(¬ (b88 = true) →
(q_awake  (decide False)) ∧ True)))))))))))) ∧
(¬ (x83 = 0) →
(q_awake  (decide False)) ∧ True)))))))))))) ∧
(¬ (b78 = true) →
(q_awake  (decide False)) ∧ True)))))))))))) ∧
(¬ (x73 = 0) →
(q_awake  (decide False)) ∧ True)))))))))))) ∧
(¬ (b68 = true) →
(q_awake  (decide False)) ∧ True)))))))))))) ∧
(¬ (x63 = 0) →
(q_awake  (decide False)) ∧ True)))))))))))))))))))))))))))))))))))))))))))))))))))))))))))))))))))))))))))))))))))))))))))))))))))))))))))))))))))))))))))))
end Go.Sx.N
