/-
  The conditions of the functions. Conditions: none; printed by a program of our own.
-/
import Derived.Test.YtedajccdbdlaoaaGreatTaxSpec
namespace Go.Sx.N
def V_Tells : Prop :=
(∀ s0 : Sl,
((Ranged s0 [some .i64, none, none, none, none]) →
(∀ x1 : Int,
((Rng .i64 x1) →
(∀ x2 : Int,
((Rng .i64 x2) →
((p_Tells s0 x1 x2) →
(p_fits s0) ∧
(∀ b3 : Bool,
((q_fits s0 (decide (b3 = true))) →
(((¬ (b3 = true)) →
(p_awake ) ∧
(∀ b4 : Bool,
((q_awake  (decide (b4 = true))) →
(q_Tells s0 x1 x2 (decide (b4 = true))) ∧ True))) ∧
(¬ (¬ (b3 = true)) →
(p_tells s0 x1 x2) ∧
(∀ b4 : Bool,
((q_tells s0 x1 x2 (decide (b4 = true))) →
(((b4 = true) →
(p_awake ) ∧
(∀ b5 : Bool,
((q_awake  (decide (b5 = true))) →
(q_Tells s0 x1 x2 (decide (b5 = true))) ∧ True))) ∧
(¬ (b4 = true) →
(q_Tells s0 x1 x2 (decide False)) ∧ True)))))))))))))))
end Go.Sx.N
