/-
  The conditions of the functions. Conditions: none; printed by a program of our own.
-/
import Derived.Test.YtehofgnfaiefkaaGreatNumBase
set_option maxRecDepth 20000
namespace Go.Sx.N
def V_rOne : Prop :=
(∀ s0 : Sl,
((Ranged s0 [some .u16]) →
((p_rOne s0) →
((Small s0) →
((((Sl.len s0) = 1) →
((0 : Int) ≤ 0) ∧
((0 : Int) < (Sl.len s0)) ∧
((Rng .u16 (Sl.int s0 0 0)) →
(q_rOne s0 (decide ((Sl.int s0 0 0) = 1))) ∧ True)) ∧
(¬ ((Sl.len s0) = 1) →
(q_rOne s0 (decide False)) ∧ True))))))
def V_rFits : Prop :=
(∀ b0 : Bool,
(∀ s1 : Sl,
((Ranged s1 [some .u16]) →
(∀ b2 : Bool,
(∀ s3 : Sl,
((Ranged s3 [some .u16]) →
((p_rFits (decide (b0 = true)) s1 (decide (b2 = true)) s3) →
((Small s1) →
((((Sl.len s1) ≤ 256) →
((Small s3) →
(q_rFits (decide (b0 = true)) s1 (decide (b2 = true)) s3 (decide ((Sl.len s3) ≤ 256))) ∧ True)) ∧
(¬ ((Sl.len s1) ≤ 256) →
(q_rFits (decide (b0 = true)) s1 (decide (b2 = true)) s3 (decide False)) ∧ True))))))))))
def V_rValid2 : Prop :=
(∀ b0 : Bool,
(∀ s1 : Sl,
((Ranged s1 [some .u16]) →
(∀ b2 : Bool,
(∀ s3 : Sl,
((Ranged s3 [some .u16]) →
((p_rValid2 (decide (b0 = true)) s1 (decide (b2 = true)) s3) →
(p_rValid1 (decide (b0 = true)) s1) ∧
(∀ b4 : Bool,
((q_rValid1 (decide (b0 = true)) s1 (decide (b4 = true))) →
(((¬ (b4 = true)) →
(q_rValid2 (decide (b0 = true)) s1 (decide (b2 = true)) s3 (decide False)) ∧ True) ∧
(¬ (¬ (b4 = true)) →
(p_rValid1 (decide (b2 = true)) s3) ∧
(∀ b5 : Bool,
((q_rValid1 (decide (b2 = true)) s3 (decide (b5 = true))) →
(((¬ (b5 = true)) →
(q_rValid2 (decide (b0 = true)) s1 (decide (b2 = true)) s3 (decide False)) ∧ True) ∧
(¬ (¬ (b5 = true)) →
(p_rFits (decide (b0 = true)) s1 (decide (b2 = true)) s3) ∧
(∀ b6 : Bool,
((q_rFits (decide (b0 = true)) s1 (decide (b2 = true)) s3 (decide (b6 = true))) →
(((¬ (b6 = true)) →
(q_rValid2 (decide (b0 = true)) s1 (decide (b2 = true)) s3 (decide False)) ∧ True) ∧
(¬ (¬ (b6 = true)) →
(((b2 = true) →
(q_rValid2 (decide (b0 = true)) s1 (decide (b2 = true)) s3 (decide False)) ∧ True) ∧
(¬ (b2 = true) →
((Small s3) →
((((Sl.len s3) = 0) →
(q_rValid2 (decide (b0 = true)) s1 (decide (b2 = true)) s3 (decide False)) ∧ True) ∧
(¬ ((Sl.len s3) = 0) →
(p_rCommon s1 s3) ∧
(∀ s7 : Sl,
((Ranged s7 [some .u16]) →
((q_rCommon s1 s3 s7) →
(p_rOne s7) ∧
(∀ b8 : Bool,
((q_rOne s7 (decide (b8 = true))) →
(q_rValid2 (decide (b0 = true)) s1 (decide (b2 = true)) s3 (decide (b8 = true))) ∧ True)))))))))))))))))))))))))))))
end Go.Sx.N
