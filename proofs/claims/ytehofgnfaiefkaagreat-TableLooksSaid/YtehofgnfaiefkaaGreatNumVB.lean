/-
  The conditions of the functions. Conditions: none; printed by a program of our own.
-/
import Derived.Test.YtehofgnfaiefkaaGreatNumBase
set_option maxRecDepth 20000
namespace Go.Sx.N
def V_Clone16 : Prop :=
(∀ s0 : Sl,
((Ranged s0 [some .u16]) →
((p_Clone16 s0) →
(∀ b1 : Bool,
(((b1 = true) →
(((Sl.len s0) ≤ 0) →
(q_Clone16 s0 Sl.nil) ∧ True)) ∧
(¬ (b1 = true) →
((((Sl.len (Sl.lit [])) + (Sl.len s0)) * 2) ≤ 140737488355328) ∧
(q_Clone16 s0 (Sl.app (Sl.lit []) s0)) ∧ True))))))
def V_wValid : Prop :=
(∀ b0 : Bool,
(∀ s1 : Sl,
((Ranged s1 [some .u16]) →
((p_wValid (decide (b0 = true)) s1) →
((Small s1) →
((((Sl.len s1) = 0) →
(q_wValid (decide (b0 = true)) s1 (decide (¬ (b0 = true)))) ∧ True) ∧
(¬ ((Sl.len s1) = 0) →
((((Sl.len s1) ≤ 1024) →
(Rng .i64 ((Sl.len s1) - 1)) ∧
((0 : Int) ≤ ((Sl.len s1) - 1)) ∧
(((Sl.len s1) - 1) < (Sl.len s1)) ∧
((Rng .u16 (Sl.int s1 ((Sl.len s1) - 1) 0)) →
(q_wValid (decide (b0 = true)) s1 (decide ((Sl.int s1 ((Sl.len s1) - 1) 0) ≠ 0))) ∧ True)) ∧
(¬ ((Sl.len s1) ≤ 1024) →
(q_wValid (decide (b0 = true)) s1 (decide False)) ∧ True)))))))))
def V_wAllValid : Prop :=
(∀ s0 : Sl,
((Ranged s0 [none, none]) →
((p_wAllValid s0) →
((Small s0) →
(∃ (J1 : Int → Prop) (M1 : Int → Nat), J1 0 ∧
(∀ x2 : Int,
((Rng .i64 x2) →
(J1 x2 →
(((x2 < (Sl.len s0)) →
((0 : Int) ≤ x2) ∧
(x2 < (Sl.len s0)) ∧
((Ranged (Sl.sub s0 x2 1) [some .u16]) →
(p_wValid (decide (Sl.bool s0 x2 0 = true)) (Sl.sub s0 x2 1)) ∧
(∀ b3 : Bool,
((q_wValid (decide (Sl.bool s0 x2 0 = true)) (Sl.sub s0 x2 1) (decide (b3 = true))) →
(((¬ (b3 = true)) →
(q_wAllValid s0 (decide False)) ∧ True) ∧
(¬ (¬ (b3 = true)) →
(Rng .i64 (x2 + 1)) ∧
(J1 (x2 + 1) ∧ M1 (x2 + 1) < M1 x2))))))) ∧
(¬ (x2 < (Sl.len s0)) →
(q_wAllValid s0 (decide True)) ∧ True))))))))))
def V_wGcd : Prop :=
(∀ b0 : Bool,
(∀ s1 : Sl,
((Ranged s1 [some .u16]) →
(∀ b2 : Bool,
(∀ s3 : Sl,
((Ranged s3 [some .u16]) →
((p_wGcd (decide (b0 = true)) s1 (decide (b2 = true)) s3) →
(p_wAllValid (Sl.lit [[(.bool (decide (b0 = true))), (Sl.d s1)], [(.bool (decide (b2 = true))), (Sl.d s3)]])) ∧
(∀ b4 : Bool,
((q_wAllValid (Sl.lit [[(.bool (decide (b0 = true))), (Sl.d s1)], [(.bool (decide (b2 = true))), (Sl.d s3)]]) (decide (b4 = true))) →
(((¬ (b4 = true)) →
(q_wGcd (decide (b0 = true)) s1 (decide (b2 = true)) s3 (decide False) Sl.nil 2) ∧ True) ∧
(¬ (¬ (b4 = true)) →
(p_pack s1) ∧
(∀ s5 : Sl,
((Ranged s5 [some .u32]) →
((q_pack s1 s5) →
(p_pack s3) ∧
(∀ s6 : Sl,
((Ranged s6 [some .u32]) →
((q_pack s3 s6) →
(p_commonDivisor s5 s6) ∧
(∀ s7 : Sl,
((Ranged s7 [some .u32]) →
((q_commonDivisor s5 s6 s7) →
(p_unpack (decide False) s7) ∧
(∀ b8 : Bool,
(∀ s9 : Sl,
((Ranged s9 [some .u16]) →
((q_unpack (decide False) s7 (decide (b8 = true)) s9) →
(q_wGcd (decide (b0 = true)) s1 (decide (b2 = true)) s3 (decide (b8 = true)) s9 0) ∧ True))))))))))))))))))))))))
end Go.Sx.N
