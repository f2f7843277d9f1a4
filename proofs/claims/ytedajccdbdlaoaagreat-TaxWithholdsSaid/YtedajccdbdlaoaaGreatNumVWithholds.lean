/-
  The conditions of the functions. Conditions: none; printed by a program of our own.
-/
import Derived.Test.YtedajccdbdlaoaaGreatTaxSpec
namespace Go.Sx.N
def V_Withholds : Prop :=
(∀ s0 : Sl,
((Ranged s0 [some .i64, none]) →
(∀ x1 : Int,
((Rng .i64 x1) →
(∀ x2 : Int,
((Rng .i64 x2) →
(∀ x3 : Int,
((Rng .i64 x3) →
(∀ s4 : Sl,
((Ranged s4 [some .i64, some .i64]) →
((p_Withholds s0 x1 x2 x3 s4) →
(p_scales s0) ∧
(∀ s5 : Sl,
((Ranged s5 [some .i64, none]) →
(∀ b6 : Bool,
((q_scales s0 s5 (decide (b6 = true))) →
(((¬ (b6 = true)) →
(p_awake ) ∧
(∀ b7 : Bool,
((q_awake  (decide (b7 = true))) →
(q_Withholds s0 x1 x2 x3 s4 (decide (b7 = true))) ∧ True))) ∧
(¬ (¬ (b6 = true)) →
((Small s4) →
((((Sl.len s4) > 60) →
(p_awake ) ∧
(∀ b7 : Bool,
((q_awake  (decide (b7 = true))) →
(q_Withholds s0 x1 x2 x3 s4 (decide (b7 = true))) ∧ True))) ∧
(¬ ((Sl.len s4) > 60) →
(p_withholds s0 s5 x1 x2 x3 s4) ∧
(∀ b7 : Bool,
((q_withholds s0 s5 x1 x2 x3 s4 (decide (b7 = true))) →
(((b7 = true) →
(p_awake ) ∧
(∀ b8 : Bool,
((q_awake  (decide (b8 = true))) →
(q_Withholds s0 x1 x2 x3 s4 (decide (b8 = true))) ∧ True))) ∧
(¬ (b7 = true) →
(q_Withholds s0 x1 x2 x3 s4 (decide False)) ∧ True))))))))))))))))))))))))
end Go.Sx.N
