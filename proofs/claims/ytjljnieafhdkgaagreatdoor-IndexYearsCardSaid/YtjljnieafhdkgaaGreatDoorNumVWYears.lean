/-
  The conditions of the functions. Conditions: none; printed by a program of our own.
-/
import Derived.Test.YtjljnieafhdkgaaGreatDoorIdxSpec
set_option maxRecDepth 20000
namespace Go.Sx.N
def V_WYears : Prop :=
(∀ x0 : Int,
((Rng .i64 x0) →
(∀ x1 : Int,
((Rng .i64 x1) →
((p_WYears x0 x1) →
(p_yearsL x0 x1) ∧
(∀ b2 : Bool,
((q_yearsL x0 x1 (decide (b2 = true))) →
(((b2 = true) →
(p_xAwake ) ∧
(∀ b3 : Bool,
((q_xAwake  (decide (b3 = true))) →
(q_WYears x0 x1 (decide (b3 = true))) ∧ True))) ∧
(¬ (b2 = true) →
(q_WYears x0 x1 (decide False)) ∧ True)))))))))
end Go.Sx.N
