/-
  The conditions of the functions. Conditions: none; printed by a program of our own.
-/
import Derived.Test.YtljmbenpkbjmmaaGreatRecSpec
namespace Go.Sx.N
def V_Later : Prop :=
(∀ x0 : Int,
((Rng .i64 x0) →
(∀ s1 : Sl,
((Ranged s1 [some .i64]) →
(∀ s2 : Sl,
((Ranged s2 [some .i64, some .i64, some .u8, some .i64]) →
(∀ x3 : Int,
((Rng .i64 x3) →
(∀ x4 : Int,
((Rng .i64 x4) →
((p_Later x0 s1 s2 x3 x4) →
(p_few x0 s1 s2) ∧
(∀ b5 : Bool,
((q_few x0 s1 s2 (decide (b5 = true))) →
(((¬ (b5 = true)) →
(p_awake ) ∧
(∀ b6 : Bool,
((q_awake  (decide (b6 = true))) →
(q_Later x0 s1 s2 x3 x4 (decide (b6 = true))) ∧ True))) ∧
(¬ (¬ (b5 = true)) →
(p_Valid x0 s1 s2) ∧
(∀ b6 : Bool,
((q_Valid x0 s1 s2 (decide (b6 = true))) →
(((¬ (b6 = true)) →
(p_awake ) ∧
(∀ b7 : Bool,
((q_awake  (decide (b7 = true))) →
(q_Later x0 s1 s2 x3 x4 (decide (b7 = true))) ∧ True))) ∧
(¬ (¬ (b6 = true)) →
(p_Part 1 1) ∧
(∀ b7 : Bool,
(∀ s8 : Sl,
((Ranged s8 [some .u16]) →
(∀ b9 : Bool,
(∀ s10 : Sl,
((Ranged s10 [some .u16]) →
((q_Part 1 1 (decide (b7 = true)) s8 (decide (b9 = true)) s10) →
(p_Take x0 s1 s2 x3 x4 (decide (b7 = true)) s8 (decide (b9 = true)) s10) ∧
(∀ s11 : Sl,
((Ranged s11 [some .i64, some .i64, some .u8, some .i64]) →
(∀ x12 : Int,
((Rng .i64 x12) →
((q_Take x0 s1 s2 x3 x4 (decide (b7 = true)) s8 (decide (b9 = true)) s10 s11 x12) →
(((x12 ≠ 0) →
(p_awake ) ∧
(∀ b13 : Bool,
((q_awake  (decide (b13 = true))) →
(q_Later x0 s1 s2 x3 x4 (decide (b13 = true))) ∧ True))) ∧
(¬ (x12 ≠ 0) →
((Small s11) →
(∃ (J13 : Int → Prop) (M13 : Int → Nat), J13 0 ∧
(∀ x14 : Int,
((Rng .i64 x14) →
(J13 x14 →
(((x14 < (Sl.len s11)) →
((0 : Int) ≤ x14) ∧
(x14 < (Sl.len s11)) ∧
((Rng .i64 (Sl.int s11 x14 0)) →
((Rng .i64 (Sl.int s11 x14 1)) →
((Rng .u8 (Sl.int s11 x14 2)) →
((Rng .i64 (Sl.int s11 x14 3)) →
(p_Open x0 s1 s2 (Sl.int s11 x14 1)) ∧
(∀ x15 : Int,
((Rng .i64 x15) →
(∀ x16 : Int,
((Rng .i64 x16) →
((q_Open x0 s1 s2 (Sl.int s11 x14 1) x15 x16) →
(((x16 ≠ 0) →
(q_Later x0 s1 s2 x3 x4 (decide False)) ∧ True) ∧
(¬ (x16 ≠ 0) →
((((Sl.int s11 x14 1) ≥ x4) →
(q_Later x0 s1 s2 x3 x4 (decide False)) ∧ True) ∧
(¬ ((Sl.int s11 x14 1) ≥ x4) →
(((x15 ≥ 0) →
(q_Later x0 s1 s2 x3 x4 (decide False)) ∧ True) ∧
(¬ (x15 ≥ 0) →
(Rng .i64 (0 - (Sl.int s11 x14 3))) ∧
(Rng .i64 (0 - x15)) ∧
((((0 - (Sl.int s11 x14 3)) > (0 - x15)) →
(q_Later x0 s1 s2 x3 x4 (decide False)) ∧ True) ∧
(¬ ((0 - (Sl.int s11 x14 3)) > (0 - x15)) →
(Rng .i64 (x14 + 1)) ∧
(J13 (x14 + 1) ∧ M13 (x14 + 1) < M13 x14))))))))))))))))))) ∧
(¬ (x14 < (Sl.len s11)) →
(p_Outstanding x0 s1 s2 x0) ∧
(∀ x15 : Int,
((Rng .i64 x15) →
(∀ x16 : Int,
((Rng .i64 x16) →
((q_Outstanding x0 s1 s2 x0 x15 x16) →
((Small s1) →
(∃ (J17 : Int → Int → Prop) (M17 : Int → Int → Nat), J17 0 0 ∧
(∀ x18 : Int,
((Rng .i64 x18) →
(∀ x19 : Int,
((Rng .i64 x19) →
(J17 x18 x19 →
(((x19 < (Sl.len s1)) →
(Rng .i64 (x0 + x19)) ∧
(p_Open x0 s1 s2 (x0 + x19)) ∧
(∀ x20 : Int,
((Rng .i64 x20) →
(∀ x21 : Int,
((Rng .i64 x21) →
((q_Open x0 s1 s2 (x0 + x19) x20 x21) →
(((x21 ≠ 0) →
(q_Later x0 s1 s2 x3 x4 (decide False)) ∧ True) ∧
(¬ (x21 ≠ 0) →
(((x20 < 0) →
(Rng .i64 (x18 - x20)) ∧
(Rng .i64 (x19 + 1)) ∧
(J17 (x18 - x20) (x19 + 1) ∧ M17 (x18 - x20) (x19 + 1) < M17 x18 x19)) ∧
(¬ (x20 < 0) →
(Rng .i64 (x19 + 1)) ∧
(J17 x18 (x19 + 1) ∧ M17 x18 (x19 + 1) < M17 x18 x19))))))))))) ∧
(¬ (x19 < (Sl.len s1)) →
(p_Outstanding x0 s1 s2 2400) ∧
(∀ x20 : Int,
((Rng .i64 x20) →
(∀ x21 : Int,
((Rng .i64 x21) →
((q_Outstanding x0 s1 s2 2400 x20 x21) →
(((x16 = 0) →
(((x21 = 0) →
(((x15 = 0) →
(((x20 = x18) →
(p_awake ) ∧
(∀ b22 : Bool,
((q_awake  (decide (b22 = true))) →
(q_Later x0 s1 s2 x3 x4 (decide (b22 = true))) ∧ True))) ∧
(¬ (x20 = x18) →
(q_Later x0 s1 s2 x3 x4 (decide False)) ∧ True))) ∧
(¬ (x15 = 0) →
(q_Later x0 s1 s2 x3 x4 (decide False)) ∧ True))) ∧
(¬ (x21 = 0) →
(q_Later x0 s1 s2 x3 x4 (decide False)) ∧ True))) ∧
(¬ (x16 = 0) →
(q_Later x0 s1 s2 x3 x4 (decide False)) ∧ True)))))))))))))))))))))))))))))))))))))))))))))))))))))))))))))
end Go.Sx.N
