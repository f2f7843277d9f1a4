/-
  The conditions of the functions. Conditions: none; printed by a program of our own.
-/
import Derived.Test.YtmhhcnaflklapaaGreatArrSpec
set_option maxRecDepth 20000
namespace Go.Sx.N
def V_Splits : Prop :=
(∀ x0 : Int,
((Rng .u32 x0) →
(∀ x1 : Int,
((Rng .u32 x1) →
(∀ x2 : Int,
((Rng .u8 x2) →
(∀ x3 : Int,
((Rng .u8 x3) →
(∀ x4 : Int,
((Rng .u8 x4) →
(∀ s5 : Sl,
((Ranged s5 [some .u8]) →
((p_Splits x0 x1 x2 x3 x4 s5) →
((100 : Int) ≠ 0) ∧
(Rng .u8 (Int.tmod x2 100)) ∧
(Rng .i64 (1080 + (Int.tmod x2 100))) ∧
((20 : Int) ≠ 0) ∧
(Rng .u8 (Int.tmod x3 20)) ∧
(Rng .i64 ((1080 + (Int.tmod x2 100)) + (Int.tmod x3 20))) ∧
((20 : Int) ≠ 0) ∧
(Rng .u8 (Int.tmod x4 20)) ∧
(Rng .i64 (((1080 + (Int.tmod x2 100)) + (Int.tmod x3 20)) + (Int.tmod x4 20))) ∧
(p_rates s5) ∧
(∀ y6 : ByteArray,
(∀ b7 : Bool,
(∀ s8 : Sl,
((Ranged s8 [some .i64, some .i64, some .i64, none, none, none, none]) →
((q_rates s5 y6 (decide (b7 = true)) s8) →
(p_Interest x0 (1080 + (Int.tmod x2 100)) (((1080 + (Int.tmod x2 100)) + (Int.tmod x3 20)) + (Int.tmod x4 20)) y6 (decide (b7 = true)) s8 0) ∧
(∀ x9 : Int,
((Rng .i64 x9) →
(∀ x10 : Int,
((Rng .i64 x10) →
((q_Interest x0 (1080 + (Int.tmod x2 100)) (((1080 + (Int.tmod x2 100)) + (Int.tmod x3 20)) + (Int.tmod x4 20)) y6 (decide (b7 = true)) s8 0 x9 x10) →
(p_Interest x1 (1080 + (Int.tmod x2 100)) (((1080 + (Int.tmod x2 100)) + (Int.tmod x3 20)) + (Int.tmod x4 20)) y6 (decide (b7 = true)) s8 0) ∧
(∀ x11 : Int,
((Rng .i64 x11) →
(∀ x12 : Int,
((Rng .i64 x12) →
((q_Interest x1 (1080 + (Int.tmod x2 100)) (((1080 + (Int.tmod x2 100)) + (Int.tmod x3 20)) + (Int.tmod x4 20)) y6 (decide (b7 = true)) s8 0 x11 x12) →
(Rng .i64 (x0 + x1)) ∧
(p_Interest (x0 + x1) (1080 + (Int.tmod x2 100)) (((1080 + (Int.tmod x2 100)) + (Int.tmod x3 20)) + (Int.tmod x4 20)) y6 (decide (b7 = true)) s8 0) ∧
(∀ x13 : Int,
((Rng .i64 x13) →
(∀ x14 : Int,
((Rng .i64 x14) →
((q_Interest (x0 + x1) (1080 + (Int.tmod x2 100)) (((1080 + (Int.tmod x2 100)) + (Int.tmod x3 20)) + (Int.tmod x4 20)) y6 (decide (b7 = true)) s8 0 x13 x14) →
(p_Interest x0 (1080 + (Int.tmod x2 100)) ((1080 + (Int.tmod x2 100)) + (Int.tmod x3 20)) y6 (decide (b7 = true)) s8 0) ∧
(∀ x15 : Int,
((Rng .i64 x15) →
(∀ x16 : Int,
((Rng .i64 x16) →
((q_Interest x0 (1080 + (Int.tmod x2 100)) ((1080 + (Int.tmod x2 100)) + (Int.tmod x3 20)) y6 (decide (b7 = true)) s8 0 x15 x16) →
(p_Interest x0 ((1080 + (Int.tmod x2 100)) + (Int.tmod x3 20)) (((1080 + (Int.tmod x2 100)) + (Int.tmod x3 20)) + (Int.tmod x4 20)) y6 (decide (b7 = true)) s8 0) ∧
(∀ x17 : Int,
((Rng .i64 x17) →
(∀ x18 : Int,
((Rng .i64 x18) →
((q_Interest x0 ((1080 + (Int.tmod x2 100)) + (Int.tmod x3 20)) (((1080 + (Int.tmod x2 100)) + (Int.tmod x3 20)) + (Int.tmod x4 20)) y6 (decide (b7 = true)) s8 0 x17 x18) →
(Rng .i64 (x13 - x9)) ∧
(Rng .i64 ((x13 - x9) - x11)) ∧
(Rng .i64 (x9 - x15)) ∧
(Rng .i64 ((x9 - x15) - x17)) ∧
(Rng .i64 (x10 + x12)) ∧
(Rng .i64 ((x10 + x12) + x14)) ∧
(Rng .i64 (((x10 + x12) + x14) + x16)) ∧
(Rng .i64 ((((x10 + x12) + x14) + x16) + x18)) ∧
(((((((x10 + x12) + x14) + x16) + x18) = 0) →
(((((x13 - x9) - x11) ≥ (-1)) →
(((((x13 - x9) - x11) ≤ 1) →
(((((x9 - x15) - x17) ≥ (-1)) →
(((((x9 - x15) - x17) ≤ 1) →
(p_aAwake ) ∧
(∀ b19 : Bool,
((q_aAwake  (decide (b19 = true))) →
(q_Splits x0 x1 x2 x3 x4 s5 (decide (b19 = true))) ∧ True))) ∧
(¬ (((x9 - x15) - x17) ≤ 1) →
(q_Splits x0 x1 x2 x3 x4 s5 (decide False)) ∧ True))) ∧
(¬ (((x9 - x15) - x17) ≥ (-1)) →
(q_Splits x0 x1 x2 x3 x4 s5 (decide False)) ∧ True))) ∧
(¬ (((x13 - x9) - x11) ≤ 1) →
(q_Splits x0 x1 x2 x3 x4 s5 (decide False)) ∧ True))) ∧
(¬ (((x13 - x9) - x11) ≥ (-1)) →
(q_Splits x0 x1 x2 x3 x4 s5 (decide False)) ∧ True))) ∧
(¬ (((((x10 + x12) + x14) + x16) + x18) = 0) →
(q_Splits x0 x1 x2 x3 x4 s5 (decide False)) ∧ True)))))))))))))))))))))))))))))))))))))))))))))
end Go.Sx.N
