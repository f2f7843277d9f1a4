/-
  The conditions of the functions. Conditions: none; printed by a program of our own.
-/
import Derived.Test.YtljmbenpkbjmmaaGreatRecSpec
namespace Go.Sx.N
def V_WRuns_0 (x0 : Int) (s1 : Sl) (s2 : Sl) (x3 : Int) (x4 : Int) (x5 : Int) : Prop :=
((IntKind.wrap .i64 (x5 + 2)) ≠ 0) ∧
(Rng .i64 (Int.tmod x4 (IntKind.wrap .i64 (x5 + 2)))) ∧
(p_Part (Int.tmod x4 (IntKind.wrap .i64 (x5 + 2))) (IntKind.wrap .i64 (x5 + 1))) ∧
(∀ b100 : Bool,
(∀ s101 : Sl,
((Ranged s101 [some .u16]) →
(∀ b102 : Bool,
(∀ s103 : Sl,
((Ranged s103 [some .u16]) →
((q_Part (Int.tmod x4 (IntKind.wrap .i64 (x5 + 2))) (IntKind.wrap .i64 (x5 + 1)) (decide (b100 = true)) s101 (decide (b102 = true)) s103) →
((Small s1) →
(∃ (J104 : Int → Prop) (M104 : Int → Nat), J104 0 ∧
(∀ x105 : Int,
((Rng .i64 x105) →
(J104 x105 →
(((x105 < (Sl.len s1)) →
(p_Open x0 s1 s2 (IntKind.wrap .i64 (x0 + x105))) ∧
(∀ x106 : Int,
((Rng .i64 x106) →
(∀ x107 : Int,
((Rng .i64 x107) →
((q_Open x0 s1 s2 (IntKind.wrap .i64 (x0 + x105)) x106 x107) →
(((x107 = 0) →
((((IntKind.wrap .i64 (x0 + x105)) ≥ x3) →
(((x106 < 0) →
(p_awake ) ∧
(∀ b108 : Bool,
((q_awake  (decide (b108 = true))) →
(q_WRuns x0 s1 s2 x3 x4 x5 (decide (b108 = true))) ∧ True))) ∧
(¬ (x106 < 0) →
(J104 (IntKind.wrap .i64 (x105 + 1)) ∧ M104 (IntKind.wrap .i64 (x105 + 1)) < M104 x105)))) ∧
(¬ ((IntKind.wrap .i64 (x0 + x105)) ≥ x3) →
(J104 (IntKind.wrap .i64 (x105 + 1)) ∧ M104 (IntKind.wrap .i64 (x105 + 1)) < M104 x105)))) ∧
(¬ (x107 = 0) →
(J104 (IntKind.wrap .i64 (x105 + 1)) ∧ M104 (IntKind.wrap .i64 (x105 + 1)) < M104 x105))))))))) ∧
(¬ (x105 < (Sl.len s1)) →
(p_Runs x0 s1 s2 x3 (decide (b100 = true)) s101 (decide (b102 = true)) s103) ∧
(∀ x106 : Int,
((Rng .i64 x106) →
(∀ x107 : Int,
((Rng .i64 x107) →
((q_Runs x0 s1 s2 x3 (decide (b100 = true)) s101 (decide (b102 = true)) s103 x106 x107) →
(((x107 ≠ 0) →
(((x106 = 0) →
(p_awake ) ∧
(∀ b108 : Bool,
((q_awake  (decide (b108 = true))) →
(q_WRuns x0 s1 s2 x3 x4 x5 (decide (b108 = true))) ∧ True))) ∧
(¬ (x106 = 0) →
(q_WRuns x0 s1 s2 x3 x4 x5 (decide False)) ∧ True))) ∧
(¬ (x107 ≠ 0) →
(((x106 > 20) →
(q_WRuns x0 s1 s2 x3 x4 x5 (decide False)) ∧ True) ∧
(¬ (x106 > 20) →
(∃ (J108 : Int → Int → Sl → Sl → Prop) (M108 : Int → Int → Sl → Sl → Nat), J108 0 x0 s1 s2 ∧
(∀ x109 : Int,
((Rng .i64 x109) →
(∀ x110 : Int,
((Rng .i64 x110) →
(∀ s111 : Sl,
((Ranged s111 [some .i64]) →
(∀ s112 : Sl,
((Ranged s112 [some .i64, some .i64, some .u8, some .i64]) →
(J108 x109 x110 s111 s112 →
(((x109 < x106) →
(p_Outstanding x110 s111 s112 x3) ∧
(∀ x113 : Int,
((Rng .i64 x113) →
(∀ x114 : Int,
((Rng .i64 x114) →
((q_Outstanding x110 s111 s112 x3 x113 x114) →
(((x114 ≠ 0) →
(q_WRuns x0 s1 s2 x3 x4 x5 (decide False)) ∧ True) ∧
(¬ (x114 ≠ 0) →
(((x113 = 0) →
(q_WRuns x0 s1 s2 x3 x4 x5 (decide False)) ∧ True) ∧
(¬ (x113 = 0) →
(p_Apply x110 s111 s112 65486 (IntKind.wrap .i64 (x3 + x109)) (decide (b100 = true)) s101 (decide (b102 = true)) s103) ∧
(∀ x115 : Int,
((Rng .i64 x115) →
(∀ s116 : Sl,
((Ranged s116 [some .i64]) →
(∀ s117 : Sl,
((Ranged s117 [some .i64, some .i64, some .u8, some .i64]) →
(∀ x118 : Int,
((Rng .i64 x118) →
((q_Apply x110 s111 s112 65486 (IntKind.wrap .i64 (x3 + x109)) (decide (b100 = true)) s101 (decide (b102 = true)) s103 x115 s116 s117 x118) →
(((x118 ≠ 0) →
(q_WRuns x0 s1 s2 x3 x4 x5 (decide False)) ∧ True) ∧
(¬ (x118 ≠ 0) →
(J108 (IntKind.wrap .i64 (x109 + 1)) x115 s116 s117 ∧ M108 (IntKind.wrap .i64 (x109 + 1)) x115 s116 s117 < M108 x109 x110 s111 s112)))))))))))))))))))))) ∧
(¬ (x109 < x106) →
(p_Outstanding x110 s111 s112 x3) ∧
(∀ x113 : Int,
((Rng .i64 x113) →
(∀ x114 : Int,
((Rng .i64 x114) →
((q_Outstanding x110 s111 s112 x3 x113 x114) →
(((x114 = 0) →
(((x113 = 0) →
(p_awake ) ∧
(∀ b115 : Bool,
((q_awake  (decide (b115 = true))) →
(q_WRuns x0 s1 s2 x3 x4 x5 (decide (b115 = true))) ∧ True))) ∧
(¬ (x113 = 0) →
(q_WRuns x0 s1 s2 x3 x4 x5 (decide False)) ∧ True))) ∧
(¬ (x114 = 0) →
(q_WRuns x0 s1 s2 x3 x4 x5 (decide False)) ∧ True))))))))))))))))))))))))))))))))))))))))))
def V_WRuns : Prop :=
(∀ x0 : Int,
((Rng .i64 x0) →
(∀ s1 : Sl,
((Ranged s1 [some .i64]) →
(∀ s2 : Sl,
((Ranged s2 [some .i64, some .i64, some .u8, some .i64]) →
(∀ x3 : Int,
((Rng .i64 x3) →
(∀ x4 : Int,
((Rng .u8 x4) →
(∀ x5 : Int,
((Rng .u8 x5) →
((p_WRuns x0 s1 s2 x3 x4 x5) →
((Small s1) →
((((Sl.len s1) > 20) →
(p_awake ) ∧
(∀ b6 : Bool,
((q_awake  (decide (b6 = true))) →
(q_WRuns x0 s1 s2 x3 x4 x5 (decide (b6 = true))) ∧ True))) ∧
(¬ ((Sl.len s1) > 20) →
((Small s2) →
((((Sl.len s2) > 30) →
(p_awake ) ∧
(∀ b6 : Bool,
((q_awake  (decide (b6 = true))) →
(q_WRuns x0 s1 s2 x3 x4 x5 (decide (b6 = true))) ∧ True))) ∧
(¬ ((Sl.len s2) > 30) →
((Small s2) →
((((Sl.len s2) > 0) →
((Small s2) →
((0 : Int) ≤ (IntKind.wrap .i64 ((Sl.len s2) - 1))) ∧
((IntKind.wrap .i64 ((Sl.len s2) - 1)) < (Sl.len s2)) ∧
((Rng .i64 (Sl.int s2 (IntKind.wrap .i64 ((Sl.len s2) - 1)) 0)) →
((((Sl.int s2 (IntKind.wrap .i64 ((Sl.len s2) - 1)) 0) > 65436) →
(p_awake ) ∧
(∀ b6 : Bool,
((q_awake  (decide (b6 = true))) →
(q_WRuns x0 s1 s2 x3 x4 x5 (decide (b6 = true))) ∧ True))) ∧
(¬ ((Sl.int s2 (IntKind.wrap .i64 ((Sl.len s2) - 1)) 0) > 65436) →
(V_WRuns_0 x0 s1 s2 x3 x4 x5)))))) ∧
(¬ ((Sl.len s2) > 0) →
(V_WRuns_0 x0 s1 s2 x3 x4 x5)))))))))))))))))))))))
end Go.Sx.N
