/-
  The conditions of the functions. Conditions: none; printed by a program of our own.
-/
import Derived.Test.YtehofgnfaiefkaaGreatNumBase
set_option maxRecDepth 20000
namespace Go.Sx.N
def V_kSameLimbs : Prop :=
(∀ s0 : Sl,
((Ranged s0 [some .u16]) →
(∀ s1 : Sl,
((Ranged s1 [some .u16]) →
((p_kSameLimbs s0 s1) →
((Small s0) →
((Small s1) →
((((Sl.len s0) ≠ (Sl.len s1)) →
(q_kSameLimbs s0 s1 (decide False)) ∧ True) ∧
(¬ ((Sl.len s0) ≠ (Sl.len s1)) →
(∃ (J2 : Int → Prop) (M2 : Int → Nat), J2 0 ∧
(∀ x3 : Int,
((Rng .i64 x3) →
(J2 x3 →
((Small s0) →
(((x3 < (Sl.len s0)) →
((0 : Int) ≤ x3) ∧
(x3 < (Sl.len s0)) ∧
((Rng .u16 (Sl.int s0 x3 0)) →
((0 : Int) ≤ x3) ∧
(x3 < (Sl.len s1)) ∧
((Rng .u16 (Sl.int s1 x3 0)) →
((((Sl.int s0 x3 0) ≠ (Sl.int s1 x3 0)) →
(q_kSameLimbs s0 s1 (decide False)) ∧ True) ∧
(¬ ((Sl.int s0 x3 0) ≠ (Sl.int s1 x3 0)) →
(Rng .i64 (x3 + 1)) ∧
(J2 (x3 + 1) ∧ M2 (x3 + 1) < M2 x3)))))) ∧
(¬ (x3 < (Sl.len s0)) →
(q_kSameLimbs s0 s1 (decide True)) ∧ True))))))))))))))))
def V_kSameWhole : Prop :=
(∀ b0 : Bool,
(∀ s1 : Sl,
((Ranged s1 [some .u16]) →
(∀ b2 : Bool,
(∀ s3 : Sl,
((Ranged s3 [some .u16]) →
((p_kSameWhole (decide (b0 = true)) s1 (decide (b2 = true)) s3) →
((((b0 = true) ↔ (b2 = true)) →
(p_kSameLimbs s1 s3) ∧
(∀ b4 : Bool,
((q_kSameLimbs s1 s3 (decide (b4 = true))) →
(q_kSameWhole (decide (b0 = true)) s1 (decide (b2 = true)) s3 (decide (b4 = true))) ∧ True))) ∧
(¬ ((b0 = true) ↔ (b2 = true)) →
(q_kSameWhole (decide (b0 = true)) s1 (decide (b2 = true)) s3 (decide False)) ∧ True)))))))))
def V_kSameFrac : Prop :=
(∀ b0 : Bool,
(∀ s1 : Sl,
((Ranged s1 [some .u16]) →
(∀ b2 : Bool,
(∀ s3 : Sl,
((Ranged s3 [some .u16]) →
(∀ b4 : Bool,
(∀ s5 : Sl,
((Ranged s5 [some .u16]) →
(∀ b6 : Bool,
(∀ s7 : Sl,
((Ranged s7 [some .u16]) →
((p_kSameFrac (decide (b0 = true)) s1 (decide (b2 = true)) s3 (decide (b4 = true)) s5 (decide (b6 = true)) s7) →
(p_kSameWhole (decide (b0 = true)) s1 (decide (b4 = true)) s5) ∧
(∀ b8 : Bool,
((q_kSameWhole (decide (b0 = true)) s1 (decide (b4 = true)) s5 (decide (b8 = true))) →
(((b8 = true) →
(p_kSameWhole (decide (b2 = true)) s3 (decide (b6 = true)) s7) ∧
(∀ b9 : Bool,
((q_kSameWhole (decide (b2 = true)) s3 (decide (b6 = true)) s7 (decide (b9 = true))) →
(q_kSameFrac (decide (b0 = true)) s1 (decide (b2 = true)) s3 (decide (b4 = true)) s5 (decide (b6 = true)) s7 (decide (b9 = true))) ∧ True))) ∧
(¬ (b8 = true) →
(q_kSameFrac (decide (b0 = true)) s1 (decide (b2 = true)) s3 (decide (b4 = true)) s5 (decide (b6 = true)) s7 (decide False)) ∧ True)))))))))))))))))
end Go.Sx.N
