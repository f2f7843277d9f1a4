/-
  The conditions of the functions. Conditions: none; printed by a program of our own.
-/
import Derived.Test.YtedajccdbdlaoaaGreatTaxSpec
namespace Go.Sx.N
def V_Grows : Prop :=
(∀ s0 : Sl,
((Ranged s0 [some .i64, none, none, none, none]) →
(∀ x1 : Int,
((Rng .i64 x1) →
(∀ x2 : Int,
((Rng .i64 x2) →
(∀ x3 : Int,
((Rng .u8 x3) →
(∀ x4 : Int,
((Rng .u8 x4) →
((p_Grows s0 x1 x2 x3 x4) →
(p_awake ) ∧
(∀ b5 : Bool,
((q_awake  (decide (b5 = true))) →
(((¬ (b5 = true)) →
(q_Grows s0 x1 x2 x3 x4 (decide False)) ∧ True) ∧
(¬ (¬ (b5 = true)) →
(p_fits s0) ∧
(∀ b6 : Bool,
((q_fits s0 (decide (b6 = true))) →
(((¬ (b6 = true)) →
(q_Grows s0 x1 x2 x3 x4 (decide True)) ∧ True) ∧
(¬ (¬ (b6 = true)) →
(p_tValid s0) ∧
(∀ b7 : Bool,
((q_tValid s0 (decide (b7 = true))) →
(((¬ (b7 = true)) →
(q_Grows s0 x1 x2 x3 x4 (decide True)) ∧ True) ∧
(¬ (¬ (b7 = true)) →
(p_kPick x1 549755813888) ∧
(∀ x8 : Int,
((Rng .i64 x8) →
((q_kPick x1 549755813888 x8) →
(p_kPick x2 549755813888) ∧
(∀ x9 : Int,
((Rng .i64 x9) →
((q_kPick x2 549755813888 x9) →
(p_tTax s0 x8) ∧
(∀ b10 : Bool,
(∀ s11 : Sl,
((Ranged s11 [some .u16]) →
(∀ b12 : Bool,
(∀ s13 : Sl,
((Ranged s13 [some .u16]) →
(∀ x14 : Int,
((Rng .i64 x14) →
((q_tTax s0 x8 (decide (b10 = true)) s11 (decide (b12 = true)) s13 x14) →
(p_tTax s0 x9) ∧
(∀ b15 : Bool,
(∀ s16 : Sl,
((Ranged s16 [some .u16]) →
(∀ b17 : Bool,
(∀ s18 : Sl,
((Ranged s18 [some .u16]) →
(∀ x19 : Int,
((Rng .i64 x19) →
((q_tTax s0 x9 (decide (b15 = true)) s16 (decide (b17 = true)) s18 x19) →
(Rng .i64 (x8 + x9)) ∧
(p_tTax s0 (x8 + x9)) ∧
(∀ b20 : Bool,
(∀ s21 : Sl,
((Ranged s21 [some .u16]) →
(∀ b22 : Bool,
(∀ s23 : Sl,
((Ranged s23 [some .u16]) →
(∀ x24 : Int,
((Rng .i64 x24) →
((q_tTax s0 (x8 + x9) (decide (b20 = true)) s21 (decide (b22 = true)) s23 x24) →
(Rng .i64 (x14 + x19)) ∧
(Rng .i64 ((x14 + x19) + x24)) ∧
(((((x14 + x19) + x24) ≠ 0) →
(q_Grows s0 x1 x2 x3 x4 (decide False)) ∧ True) ∧
(¬ (((x14 + x19) + x24) ≠ 0) →
(p_fAdd (decide (b10 = true)) s11 (decide (b12 = true)) s13 (decide (b15 = true)) s16 (decide (b17 = true)) s18) ∧
(∀ b25 : Bool,
(∀ s26 : Sl,
((Ranged s26 [some .u16]) →
(∀ b27 : Bool,
(∀ s28 : Sl,
((Ranged s28 [some .u16]) →
(∀ x29 : Int,
((Rng .i64 x29) →
((q_fAdd (decide (b10 = true)) s11 (decide (b12 = true)) s13 (decide (b15 = true)) s16 (decide (b17 = true)) s18 (decide (b25 = true)) s26 (decide (b27 = true)) s28 x29) →
(p_fFromInt x9) ∧
(∀ b30 : Bool,
(∀ s31 : Sl,
((Ranged s31 [some .u16]) →
(∀ b32 : Bool,
(∀ s33 : Sl,
((Ranged s33 [some .u16]) →
((q_fFromInt x9 (decide (b30 = true)) s31 (decide (b32 = true)) s33) →
(p_fAdd (decide (b10 = true)) s11 (decide (b12 = true)) s13 (decide (b30 = true)) s31 (decide (b32 = true)) s33) ∧
(∀ b34 : Bool,
(∀ s35 : Sl,
((Ranged s35 [some .u16]) →
(∀ b36 : Bool,
(∀ s37 : Sl,
((Ranged s37 [some .u16]) →
(∀ x38 : Int,
((Rng .i64 x38) →
((q_fAdd (decide (b10 = true)) s11 (decide (b12 = true)) s13 (decide (b30 = true)) s31 (decide (b32 = true)) s33 (decide (b34 = true)) s35 (decide (b36 = true)) s37 x38) →
((12 : Int) ≠ 0) ∧
(Rng .u8 (Int.tmod x3 12)) ∧
(Rng .i64 (1 + (Int.tmod x3 12))) ∧
((12 : Int) ≠ 0) ∧
(Rng .u8 (Int.tmod x4 12)) ∧
(Rng .i64 (1 + (Int.tmod x4 12))) ∧
(p_tDue s0 (imin (1 + (Int.tmod x3 12)) (1 + (Int.tmod x4 12))) x8) ∧
(∀ x39 : Int,
((Rng .i64 x39) →
(∀ x40 : Int,
((Rng .i64 x40) →
((q_tDue s0 (imin (1 + (Int.tmod x3 12)) (1 + (Int.tmod x4 12))) x8 x39 x40) →
(p_tDue s0 (imax (1 + (Int.tmod x3 12)) (1 + (Int.tmod x4 12))) x8) ∧
(∀ x41 : Int,
((Rng .i64 x41) →
(∀ x42 : Int,
((Rng .i64 x42) →
((q_tDue s0 (imax (1 + (Int.tmod x3 12)) (1 + (Int.tmod x4 12))) x8 x41 x42) →
(Rng .i64 (x29 + x38)) ∧
(Rng .i64 ((x29 + x38) + x40)) ∧
(Rng .i64 (((x29 + x38) + x40) + x42)) ∧
((((((x29 + x38) + x40) + x42) = 0) →
(p_fCmp (decide (b20 = true)) s21 (decide (b22 = true)) s23 (decide (b25 = true)) s26 (decide (b27 = true)) s28) ∧
(∀ x43 : Int,
((Rng .i64 x43) →
((q_fCmp (decide (b20 = true)) s21 (decide (b22 = true)) s23 (decide (b25 = true)) s26 (decide (b27 = true)) s28 x43) →
(((x43 ≥ 0) →
(p_fCmp (decide (b20 = true)) s21 (decide (b22 = true)) s23 (decide (b34 = true)) s35 (decide (b36 = true)) s37) ∧
(∀ x44 : Int,
((Rng .i64 x44) →
((q_fCmp (decide (b20 = true)) s21 (decide (b22 = true)) s23 (decide (b34 = true)) s35 (decide (b36 = true)) s37 x44) →
(((x44 ≤ 0) →
(p_fCmp (decide (b20 = true)) s21 (decide (b22 = true)) s23 (decide (b10 = true)) s11 (decide (b12 = true)) s13) ∧
(∀ x45 : Int,
((Rng .i64 x45) →
((q_fCmp (decide (b20 = true)) s21 (decide (b22 = true)) s23 (decide (b10 = true)) s11 (decide (b12 = true)) s13 x45) →
(((x45 ≥ 0) →
(((x41 ≤ x39) →
(((x41 ≥ 0) →
(q_Grows s0 x1 x2 x3 x4 (decide (x39 ≤ x8))) ∧ True) ∧
(¬ (x41 ≥ 0) →
(q_Grows s0 x1 x2 x3 x4 (decide False)) ∧ True))) ∧
(¬ (x41 ≤ x39) →
(q_Grows s0 x1 x2 x3 x4 (decide False)) ∧ True))) ∧
(¬ (x45 ≥ 0) →
(q_Grows s0 x1 x2 x3 x4 (decide False)) ∧ True)))))) ∧
(¬ (x44 ≤ 0) →
(q_Grows s0 x1 x2 x3 x4 (decide False)) ∧ True)))))) ∧
(¬ (x43 ≥ 0) →
(q_Grows s0 x1 x2 x3 x4 (decide False)) ∧ True)))))) ∧
(¬ ((((x29 + x38) + x40) + x42) = 0) →
(q_Grows s0 x1 x2 x3 x4 (decide False)) ∧ True)))))))))))))))))))))))))))))))))))))))))))))))))))))))))))))))))))))))))))))))))))))))))))))))
end Go.Sx.N
