/-
  The conditions of the functions. Conditions: none; printed by a program of our own.
-/
import Derived.Test.YtehofgnfaiefkaaGreatMemSpec
set_option maxRecDepth 20000
namespace Go.Sx.N
def V_TLooks : Prop :=
(∀ y0 : ByteArray,
(∀ b1 : Bool,
(∀ s2 : Sl,
((Ranged s2 [some .i64, some .i64, some .i64, none, none, none, none]) →
(∀ x3 : Int,
((Rng .i64 x3) →
(∀ x4 : Int,
((Rng .i64 x4) →
(∀ x5 : Int,
((Rng .i64 x5) →
((p_TLooks y0 (decide (b1 = true)) s2 x3 x4 x5) →
(p_Few y0 (decide (b1 = true)) s2) ∧
(∀ b6 : Bool,
((q_Few y0 (decide (b1 = true)) s2 (decide (b6 = true))) →
(((¬ (b6 = true)) →
(p_awake ) ∧
(∀ b7 : Bool,
((q_awake  (decide (b7 = true))) →
(q_TLooks y0 (decide (b1 = true)) s2 x3 x4 x5 (decide (b7 = true))) ∧ True))) ∧
(¬ (¬ (b6 = true)) →
(p_looks y0 (decide (b1 = true)) s2 x3 x4 x5) ∧
(∀ b7 : Bool,
((q_looks y0 (decide (b1 = true)) s2 x3 x4 x5 (decide (b7 = true))) →
(((b7 = true) →
(p_awake ) ∧
(∀ b8 : Bool,
((q_awake  (decide (b8 = true))) →
(q_TLooks y0 (decide (b1 = true)) s2 x3 x4 x5 (decide (b8 = true))) ∧ True))) ∧
(¬ (b7 = true) →
(q_TLooks y0 (decide (b1 = true)) s2 x3 x4 x5 (decide False)) ∧ True)))))))))))))))))))
end Go.Sx.N
