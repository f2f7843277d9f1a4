/-
  The conditions of the functions. Conditions: none; printed by a program of our own.
-/
import Derived.Test.YtljmbenpkbjmmaaGreatRecSpec
set_option maxRecDepth 20000
namespace Go.Sx.N
def V_Part : Prop :=
(∀ x0 : Int,
((Rng .i64 x0) →
(∀ x1 : Int,
((Rng .i64 x1) →
((p_Part x0 x1) →
(p_kFrac x0 x1) ∧
(∀ b2 : Bool,
(∀ s3 : Sl,
((Ranged s3 [some .u16]) →
(∀ b4 : Bool,
(∀ s5 : Sl,
((Ranged s5 [some .u16]) →
((q_kFrac x0 x1 (decide (b2 = true)) s3 (decide (b4 = true)) s5) →
(q_Part x0 x1 (decide (b2 = true)) s3 (decide (b4 = true)) s5) ∧ True))))))))))))
def V_few : Prop :=
(∀ x0 : Int,
((Rng .i64 x0) →
(∀ s1 : Sl,
(∀ s2 : Sl,
((p_few x0 s1 s2) →
((Small s1) →
((((Sl.len s1) ≤ 20) →
((Small s2) →
(q_few x0 s1 s2 (decide ((Sl.len s2) ≤ 40))) ∧ True)) ∧
(¬ ((Sl.len s1) ≤ 20) →
(q_few x0 s1 s2 (decide False)) ∧ True))))))))
def V_light : Prop :=
(∀ b0 : Bool,
(∀ s1 : Sl,
(∀ b2 : Bool,
(∀ s3 : Sl,
((p_light (decide (b0 = true)) s1 (decide (b2 = true)) s3) →
((Small s1) →
((((Sl.len s1) ≤ 4) →
((Small s3) →
(q_light (decide (b0 = true)) s1 (decide (b2 = true)) s3 (decide ((Sl.len s3) ≤ 4))) ∧ True)) ∧
(¬ ((Sl.len s1) ≤ 4) →
(q_light (decide (b0 = true)) s1 (decide (b2 = true)) s3 (decide False)) ∧ True))))))))
def V_paids : Prop :=
(∀ s0 : Sl,
(∀ s1 : Sl,
((p_paids s0 s1) →
((Small s0) →
((Small s1) →
((((Sl.len s0) ≠ (Sl.len s1)) →
(q_paids s0 s1 (decide False)) ∧ True) ∧
(¬ ((Sl.len s0) ≠ (Sl.len s1)) →
((Small s0) →
(∃ (J2 : Int → Prop) (M2 : Int → Nat), J2 0 ∧
(∀ x3 : Int,
((Rng .i64 x3) →
(J2 x3 →
(((x3 < (Sl.len s0)) →
((0 : Int) ≤ x3) ∧
(x3 < (Sl.len s0)) ∧
((Rng .i64 (Sl.int s0 x3 0)) →
((Rng .i64 (Sl.int s0 x3 1)) →
((Rng .u8 (Sl.int s0 x3 2)) →
((Rng .i64 (Sl.int s0 x3 3)) →
((0 : Int) ≤ x3) ∧
(x3 < (Sl.len s1)) ∧
((Rng .i64 (Sl.int s1 x3 0)) →
((Rng .i64 (Sl.int s1 x3 1)) →
((Rng .u8 (Sl.int s1 x3 2)) →
((Rng .i64 (Sl.int s1 x3 3)) →
(((¬ (((Sl.int s0 x3 0) = (Sl.int s1 x3 0)) ∧ (((Sl.int s0 x3 1) = (Sl.int s1 x3 1)) ∧ (((Sl.int s0 x3 2) = (Sl.int s1 x3 2)) ∧ ((Sl.int s0 x3 3) = (Sl.int s1 x3 3)))))) →
(q_paids s0 s1 (decide False)) ∧ True) ∧
(¬ (¬ (((Sl.int s0 x3 0) = (Sl.int s1 x3 0)) ∧ (((Sl.int s0 x3 1) = (Sl.int s1 x3 1)) ∧ (((Sl.int s0 x3 2) = (Sl.int s1 x3 2)) ∧ ((Sl.int s0 x3 3) = (Sl.int s1 x3 3)))))) →
(Rng .i64 (x3 + 1)) ∧
(J2 (x3 + 1) ∧ M2 (x3 + 1) < M2 x3)))))))))))) ∧
(¬ (x3 < (Sl.len s0)) →
(q_paids s0 s1 (decide True)) ∧ True))))))))))))))
def V_example : Prop :=
((p_example ) →
(q_example  1500 (Sl.lit [[(.int 100)], [(.int 100)], [(.int 90)], [(.int 90)]]) (Sl.lit [[(.int 0), (.int 1500), (.int 1), (.int 130)], [(.int 0), (.int 1501), (.int 1), (.int 115)]])) ∧ True)
def V_awake : Prop :=
((p_awake ) →
(p_example ) ∧
(∀ x0 : Int,
((Rng .i64 x0) →
(∀ s1 : Sl,
((Ranged s1 [some .i64]) →
(∀ s2 : Sl,
((Ranged s2 [some .i64, some .i64, some .u8, some .i64]) →
((q_example  x0 s1 s2) →
(p_Part 1 4) ∧
(∀ b3 : Bool,
(∀ s4 : Sl,
((Ranged s4 [some .u16]) →
(∀ b5 : Bool,
(∀ s6 : Sl,
((Ranged s6 [some .u16]) →
((q_Part 1 4 (decide (b3 = true)) s4 (decide (b5 = true)) s6) →
(p_Limit x0 s1 s2 1502 (decide (b3 = true)) s4 (decide (b5 = true)) s6) ∧
(∀ x7 : Int,
((Rng .i64 x7) →
(∀ x8 : Int,
((Rng .i64 x8) →
((q_Limit x0 s1 s2 1502 (decide (b3 = true)) s4 (decide (b5 = true)) s6 x7 x8) →
(p_Outstanding x0 s1 s2 1502) ∧
(∀ x9 : Int,
((Rng .i64 x9) →
(∀ x10 : Int,
((Rng .i64 x10) →
((q_Outstanding x0 s1 s2 1502 x9 x10) →
(p_Take x0 s1 s2 7 1502 (decide (b3 = true)) s4 (decide (b5 = true)) s6) ∧
(∀ s11 : Sl,
((Ranged s11 [some .i64, some .i64, some .u8, some .i64]) →
(∀ x12 : Int,
((Rng .i64 x12) →
((q_Take x0 s1 s2 7 1502 (decide (b3 = true)) s4 (decide (b5 = true)) s6 s11 x12) →
(p_Apply x0 s1 s2 7 1502 (decide (b3 = true)) s4 (decide (b5 = true)) s6) ∧
(∀ x13 : Int,
((Rng .i64 x13) →
(∀ s14 : Sl,
((Ranged s14 [some .i64]) →
(∀ s15 : Sl,
((Ranged s15 [some .i64, some .i64, some .u8, some .i64]) →
(∀ x16 : Int,
((Rng .i64 x16) →
((q_Apply x0 s1 s2 7 1502 (decide (b3 = true)) s4 (decide (b5 = true)) s6 x13 s14 s15 x16) →
(p_Outstanding x13 s14 s15 1503) ∧
(∀ x17 : Int,
((Rng .i64 x17) →
(∀ x18 : Int,
((Rng .i64 x18) →
((q_Outstanding x13 s14 s15 1503 x17 x18) →
(p_Take x13 s14 s15 8 1503 (decide (b3 = true)) s4 (decide (b5 = true)) s6) ∧
(∀ s19 : Sl,
((Ranged s19 [some .i64, some .i64, some .u8, some .i64]) →
(∀ x20 : Int,
((Rng .i64 x20) →
((q_Take x13 s14 s15 8 1503 (decide (b3 = true)) s4 (decide (b5 = true)) s6 s19 x20) →
(p_Runs x0 s1 s2 1502 (decide (b3 = true)) s4 (decide (b5 = true)) s6) ∧
(∀ x21 : Int,
((Rng .i64 x21) →
(∀ x22 : Int,
((Rng .i64 x22) →
((q_Runs x0 s1 s2 1502 (decide (b3 = true)) s4 (decide (b5 = true)) s6 x21 x22) →
(Rng .i64 (x8 + x10)) ∧
(Rng .i64 ((x8 + x10) + x12)) ∧
(Rng .i64 (((x8 + x10) + x12) + x16)) ∧
(Rng .i64 ((((x8 + x10) + x12) + x16) + x18)) ∧
(Rng .i64 (((((x8 + x10) + x12) + x16) + x18) + x20)) ∧
((((((((x8 + x10) + x12) + x16) + x18) + x20) = 0) →
(((x7 = 22) →
(((x9 = 45) →
(((x17 = 23) →
(((x22 = 6) →
(p_paids s11 (Sl.lit [[(.int 7), (.int 1500), (.int 4), (.int (-22))]])) ∧
(∀ b23 : Bool,
((q_paids s11 (Sl.lit [[(.int 7), (.int 1500), (.int 4), (.int (-22))]]) (decide (b23 = true))) →
(((b23 = true) →
(p_paids s19 (Sl.lit [[(.int 8), (.int 1500), (.int 4), (.int (-8))], [(.int 8), (.int 1501), (.int 4), (.int (-14))]])) ∧
(∀ b24 : Bool,
((q_paids s19 (Sl.lit [[(.int 8), (.int 1500), (.int 4), (.int (-8))], [(.int 8), (.int 1501), (.int 4), (.int (-14))]]) (decide (b24 = true))) →
(q_awake  (decide (b24 = true))) ∧ True))) ∧
(¬ (b23 = true) →
(q_awake  (decide False)) ∧ True))))) ∧
(¬ (x22 = 6) →
(q_awake  (decide False)) ∧ True))) ∧
(¬ (x17 = 23) →
(q_awake  (decide False)) ∧ True))) ∧
(¬ (x9 = 45) →
(q_awake  (decide False)) ∧ True))) ∧
(¬ (x7 = 22) →
(q_awake  (decide False)) ∧ True))) ∧
(¬ ((((((x8 + x10) + x12) + x16) + x18) + x20) = 0) →
(q_awake  (decide False)) ∧ True))))))))))))))))))))))))))))))))))))))))))))))))))))))))
end Go.Sx.N
