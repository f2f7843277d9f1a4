/-
  The conditions of the functions. Conditions: none; printed by a program of our own.
-/
import Derived.Test.YtehofgnfaiefkaaGreatNumBase
set_option maxRecDepth 20000
namespace Go.Sx.N
def V_fDivisor : Prop :=
(∀ b0 : Bool,
(∀ s1 : Sl,
((Ranged s1 [some .u16]) →
(∀ b2 : Bool,
(∀ s3 : Sl,
((Ranged s3 [some .u16]) →
((p_fDivisor (decide (b0 = true)) s1 (decide (b2 = true)) s3) →
(p_wGcd (decide (b0 = true)) s1 (decide (b2 = true)) s3) ∧
(∀ b4 : Bool,
(∀ s5 : Sl,
((Ranged s5 [some .u16]) →
(∀ x6 : Int,
((Rng .i64 x6) →
((q_wGcd (decide (b0 = true)) s1 (decide (b2 = true)) s3 (decide (b4 = true)) s5 x6) →
(q_fDivisor (decide (b0 = true)) s1 (decide (b2 = true)) s3 (decide (b4 = true)) s5) ∧ True)))))))))))))
def V_fValid : Prop :=
(∀ b0 : Bool,
(∀ s1 : Sl,
((Ranged s1 [some .u16]) →
(∀ b2 : Bool,
(∀ s3 : Sl,
((Ranged s3 [some .u16]) →
((p_fValid (decide (b0 = true)) s1 (decide (b2 = true)) s3) →
((Small s1) →
((((Sl.len s1) > 256) →
(q_fValid (decide (b0 = true)) s1 (decide (b2 = true)) s3 (decide False)) ∧ True) ∧
(¬ ((Sl.len s1) > 256) →
((Small s3) →
((((Sl.len s3) > 256) →
(q_fValid (decide (b0 = true)) s1 (decide (b2 = true)) s3 (decide False)) ∧ True) ∧
(¬ ((Sl.len s3) > 256) →
(p_wValid (decide (b0 = true)) s1) ∧
(∀ b4 : Bool,
((q_wValid (decide (b0 = true)) s1 (decide (b4 = true))) →
(((¬ (b4 = true)) →
(q_fValid (decide (b0 = true)) s1 (decide (b2 = true)) s3 (decide False)) ∧ True) ∧
(¬ (¬ (b4 = true)) →
(p_wValid (decide (b2 = true)) s3) ∧
(∀ b5 : Bool,
((q_wValid (decide (b2 = true)) s3 (decide (b5 = true))) →
(((¬ (b5 = true)) →
(q_fValid (decide (b0 = true)) s1 (decide (b2 = true)) s3 (decide False)) ∧ True) ∧
(¬ (¬ (b5 = true)) →
(((b2 = true) →
(q_fValid (decide (b0 = true)) s1 (decide (b2 = true)) s3 (decide False)) ∧ True) ∧
(¬ (b2 = true) →
((Small s3) →
((((Sl.len s3) = 0) →
(q_fValid (decide (b0 = true)) s1 (decide (b2 = true)) s3 (decide False)) ∧ True) ∧
(¬ ((Sl.len s3) = 0) →
(((¬ (b2 = true)) →
((Small s3) →
((((Sl.len s3) = 1) →
((0 : Int) ≤ 0) ∧
((0 : Int) < (Sl.len s3)) ∧
((Rng .u16 (Sl.int s3 0 0)) →
((((Sl.int s3 0 0) = 1) →
(q_fValid (decide (b0 = true)) s1 (decide (b2 = true)) s3 (decide True)) ∧ True) ∧
(¬ ((Sl.int s3 0 0) = 1) →
(p_fDivisor (decide (b0 = true)) s1 (decide (b2 = true)) s3) ∧
(∀ b6 : Bool,
(∀ s7 : Sl,
((Ranged s7 [some .u16]) →
((q_fDivisor (decide (b0 = true)) s1 (decide (b2 = true)) s3 (decide (b6 = true)) s7) →
(((¬ (b6 = true)) →
((Small s7) →
((((Sl.len s7) = 1) →
((0 : Int) ≤ 0) ∧
((0 : Int) < (Sl.len s7)) ∧
((Rng .u16 (Sl.int s7 0 0)) →
(q_fValid (decide (b0 = true)) s1 (decide (b2 = true)) s3 (decide ((Sl.int s7 0 0) = 1))) ∧ True)) ∧
(¬ ((Sl.len s7) = 1) →
(q_fValid (decide (b0 = true)) s1 (decide (b2 = true)) s3 (decide False)) ∧ True)))) ∧
(¬ (¬ (b6 = true)) →
(q_fValid (decide (b0 = true)) s1 (decide (b2 = true)) s3 (decide False)) ∧ True)))))))))) ∧
(¬ ((Sl.len s3) = 1) →
(p_fDivisor (decide (b0 = true)) s1 (decide (b2 = true)) s3) ∧
(∀ b6 : Bool,
(∀ s7 : Sl,
((Ranged s7 [some .u16]) →
((q_fDivisor (decide (b0 = true)) s1 (decide (b2 = true)) s3 (decide (b6 = true)) s7) →
(((¬ (b6 = true)) →
((Small s7) →
((((Sl.len s7) = 1) →
((0 : Int) ≤ 0) ∧
((0 : Int) < (Sl.len s7)) ∧
((Rng .u16 (Sl.int s7 0 0)) →
(q_fValid (decide (b0 = true)) s1 (decide (b2 = true)) s3 (decide ((Sl.int s7 0 0) = 1))) ∧ True)) ∧
(¬ ((Sl.len s7) = 1) →
(q_fValid (decide (b0 = true)) s1 (decide (b2 = true)) s3 (decide False)) ∧ True)))) ∧
(¬ (¬ (b6 = true)) →
(q_fValid (decide (b0 = true)) s1 (decide (b2 = true)) s3 (decide False)) ∧ True)))))))))) ∧
(¬ (¬ (b2 = true)) →
(p_fDivisor (decide (b0 = true)) s1 (decide (b2 = true)) s3) ∧
(∀ b6 : Bool,
(∀ s7 : Sl,
((Ranged s7 [some .u16]) →
((q_fDivisor (decide (b0 = true)) s1 (decide (b2 = true)) s3 (decide (b6 = true)) s7) →
(((¬ (b6 = true)) →
((Small s7) →
((((Sl.len s7) = 1) →
((0 : Int) ≤ 0) ∧
((0 : Int) < (Sl.len s7)) ∧
((Rng .u16 (Sl.int s7 0 0)) →
(q_fValid (decide (b0 = true)) s1 (decide (b2 = true)) s3 (decide ((Sl.int s7 0 0) = 1))) ∧ True)) ∧
(¬ ((Sl.len s7) = 1) →
(q_fValid (decide (b0 = true)) s1 (decide (b2 = true)) s3 (decide False)) ∧ True)))) ∧
(¬ (¬ (b6 = true)) →
(q_fValid (decide (b0 = true)) s1 (decide (b2 = true)) s3 (decide False)) ∧ True))))))))))))))))))))))))))))))))))
end Go.Sx.N
