/-
  The conditions of the functions. Conditions: none; printed by a program of our own.
-/
import Derived.Test.YtedajccdbdlaoaaGreatTaxSpec
namespace Go.Sx.N
def V_Even : Prop :=
(∀ s0 : Sl,
((Ranged s0 [some .i64, none, none, none, none]) →
(∀ x1 : Int,
((Rng .i64 x1) →
((p_Even s0 x1) →
(p_awake ) ∧
(∀ b2 : Bool,
((q_awake  (decide (b2 = true))) →
(((¬ (b2 = true)) →
(q_Even s0 x1 (decide False)) ∧ True) ∧
(¬ (¬ (b2 = true)) →
(p_fits s0) ∧
(∀ b3 : Bool,
((q_fits s0 (decide (b3 = true))) →
(((¬ (b3 = true)) →
(q_Even s0 x1 (decide True)) ∧ True) ∧
(¬ (¬ (b3 = true)) →
(p_tValid s0) ∧
(∀ b4 : Bool,
((q_tValid s0 (decide (b4 = true))) →
(((¬ (b4 = true)) →
(q_Even s0 x1 (decide True)) ∧ True) ∧
(¬ (¬ (b4 = true)) →
(p_kPick x1 91625968981) ∧
(∀ x5 : Int,
((Rng .i64 x5) →
((q_kPick x1 91625968981 x5) →
(∃ (J6 : Int → Int → Int → Int → Int → Int → Prop) (M6 : Int → Int → Int → Int → Int → Int → Nat), J6 0 0 0 0 0 0 ∧
(∀ x7 : Int,
((Rng .i64 x7) →
(∀ x8 : Int,
((Rng .i64 x8) →
(∀ x9 : Int,
((Rng .i64 x9) →
(∀ x10 : Int,
((Rng .i64 x10) →
(∀ x11 : Int,
((Rng .i64 x11) →
(∀ x12 : Int,
((Rng .i64 x12) →
(J6 x7 x8 x9 x10 x11 x12 →
(((x9 < 12) →
(p_tWithhold (Sl.lit [[(.int 1900), (Sl.d s0)]]) x10 x11 x12 x9 x5) ∧
(∀ x13 : Int,
((Rng .i64 x13) →
(∀ x14 : Int,
((Rng .i64 x14) →
(∀ x15 : Int,
((Rng .i64 x15) →
(∀ x16 : Int,
((Rng .i64 x16) →
(∀ x17 : Int,
((Rng .i64 x17) →
((q_tWithhold (Sl.lit [[(.int 1900), (Sl.d s0)]]) x10 x11 x12 x9 x5 x13 x14 x15 x16 x17) →
(((x17 ≠ 0) →
(q_Even s0 x1 (decide False)) ∧ True) ∧
(¬ (x17 ≠ 0) →
(((x13 < 0) →
(q_Even s0 x1 (decide False)) ∧ True) ∧
(¬ (x13 < 0) →
(((x9 = 0) →
(Rng .i64 (x9 + 1)) ∧
(J6 (imin x13 x13) (imax x13 x13) (x9 + 1) x14 x15 x16 ∧ M6 (imin x13 x13) (imax x13 x13) (x9 + 1) x14 x15 x16 < M6 x7 x8 x9 x10 x11 x12)) ∧
(¬ (x9 = 0) →
(Rng .i64 (x9 + 1)) ∧
(J6 (imin x7 x13) (imax x8 x13) (x9 + 1) x14 x15 x16 ∧ M6 (imin x7 x13) (imax x8 x13) (x9 + 1) x14 x15 x16 < M6 x7 x8 x9 x10 x11 x12))))))))))))))))))) ∧
(¬ (x9 < 12) →
(Rng .i64 (x8 - x7)) ∧
(q_Even s0 x1 (decide ((x8 - x7) ≤ 1))) ∧ True))))))))))))))))))))))))))))))))))))
end Go.Sx.N
