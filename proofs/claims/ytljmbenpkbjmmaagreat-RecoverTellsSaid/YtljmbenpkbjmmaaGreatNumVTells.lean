/-
  The conditions of the functions. Conditions: none; printed by a program of our own.
-/
import Derived.Test.YtljmbenpkbjmmaaGreatRecSpec
namespace Go.Sx.N
def V_Tells_0 (x0 : Int) (s1 : Sl) (s2 : Sl) (x3 : Int) (x4 : Int) (b5 : Bool) (s6 : Sl) (b7 : Bool) (s8 : Sl) (x110 : Int) (s111 : Sl) (s112 : Sl) : Prop :=
(p_Same x110 s111 s112 0 Sl.nil Sl.nil) ∧
(∀ b200 : Bool,
((q_Same x110 s111 s112 0 Sl.nil Sl.nil (decide (b200 = true))) →
(((b200 = true) →
(p_awake ) ∧
(∀ b201 : Bool,
((q_awake  (decide (b201 = true))) →
(q_Tells x0 s1 s2 x3 x4 (decide (b5 = true)) s6 (decide (b7 = true)) s8 (decide (b201 = true))) ∧ True))) ∧
(¬ (b200 = true) →
(q_Tells x0 s1 s2 x3 x4 (decide (b5 = true)) s6 (decide (b7 = true)) s8 (decide False)) ∧ True))))
def V_Tells_1 (x0 : Int) (s1 : Sl) (s2 : Sl) (x3 : Int) (x4 : Int) (b5 : Bool) (s6 : Sl) (b7 : Bool) (s8 : Sl) : Prop :=
((((Sl.len (Sl.lit [])) + (Sl.len s1)) * 8) ≤ 140737488355328) ∧
((((Sl.len (Sl.lit [])) + (Sl.len s2)) * 32) ≤ 140737488355328) ∧
(p_Limit x0 s1 s2 x4 (decide (b5 = true)) s6 (decide (b7 = true)) s8) ∧
(∀ x100 : Int,
((Rng .i64 x100) →
(∀ x101 : Int,
((Rng .i64 x101) →
((q_Limit x0 s1 s2 x4 (decide (b5 = true)) s6 (decide (b7 = true)) s8 x100 x101) →
(p_xLimit x0 (Sl.app (Sl.lit []) s1) (Sl.app (Sl.lit []) s2) x4 (decide (b5 = true)) s6 (decide (b7 = true)) s8) ∧
(∀ x102 : Int,
((Rng .i64 x102) →
(∀ x103 : Int,
((Rng .i64 x103) →
((q_xLimit x0 (Sl.app (Sl.lit []) s1) (Sl.app (Sl.lit []) s2) x4 (decide (b5 = true)) s6 (decide (b7 = true)) s8 x102 x103) →
(p_Outstanding x0 s1 s2 x4) ∧
(∀ x104 : Int,
((Rng .i64 x104) →
(∀ x105 : Int,
((Rng .i64 x105) →
((q_Outstanding x0 s1 s2 x4 x104 x105) →
(p_Take x0 s1 s2 x3 x4 (decide (b5 = true)) s6 (decide (b7 = true)) s8) ∧
(∀ s106 : Sl,
((Ranged s106 [some .i64, some .i64, some .u8, some .i64]) →
(∀ x107 : Int,
((Rng .i64 x107) →
((q_Take x0 s1 s2 x3 x4 (decide (b5 = true)) s6 (decide (b7 = true)) s8 s106 x107) →
(p_xTake x0 (Sl.app (Sl.lit []) s1) (Sl.app (Sl.lit []) s2) x3 x4 (decide (b5 = true)) s6 (decide (b7 = true)) s8) ∧
(∀ s108 : Sl,
((Ranged s108 [some .i64, some .i64, some .u8, some .i64]) →
(∀ x109 : Int,
((Rng .i64 x109) →
((q_xTake x0 (Sl.app (Sl.lit []) s1) (Sl.app (Sl.lit []) s2) x3 x4 (decide (b5 = true)) s6 (decide (b7 = true)) s8 s108 x109) →
(p_Apply x0 s1 s2 x3 x4 (decide (b5 = true)) s6 (decide (b7 = true)) s8) ∧
(∀ x110 : Int,
((Rng .i64 x110) →
(∀ s111 : Sl,
((Ranged s111 [some .i64]) →
(∀ s112 : Sl,
((Ranged s112 [some .i64, some .i64, some .u8, some .i64]) →
(∀ x113 : Int,
((Rng .i64 x113) →
((q_Apply x0 s1 s2 x3 x4 (decide (b5 = true)) s6 (decide (b7 = true)) s8 x110 s111 s112 x113) →
(p_Runs x0 s1 s2 x4 (decide (b5 = true)) s6 (decide (b7 = true)) s8) ∧
(∀ x114 : Int,
((Rng .i64 x114) →
(∀ x115 : Int,
((Rng .i64 x115) →
((q_Runs x0 s1 s2 x4 (decide (b5 = true)) s6 (decide (b7 = true)) s8 x114 x115) →
(p_xRuns x0 (Sl.app (Sl.lit []) s1) (Sl.app (Sl.lit []) s2) x4 (decide (b5 = true)) s6 (decide (b7 = true)) s8) ∧
(∀ x116 : Int,
((Rng .i64 x116) →
(∀ x117 : Int,
((Rng .i64 x117) →
((q_xRuns x0 (Sl.app (Sl.lit []) s1) (Sl.app (Sl.lit []) s2) x4 (decide (b5 = true)) s6 (decide (b7 = true)) s8 x116 x117) →
(((x100 ≠ x102) →
(q_Tells x0 s1 s2 x3 x4 (decide (b5 = true)) s6 (decide (b7 = true)) s8 (decide False)) ∧ True) ∧
(¬ (x100 ≠ x102) →
(((x101 ≠ x103) →
(q_Tells x0 s1 s2 x3 x4 (decide (b5 = true)) s6 (decide (b7 = true)) s8 (decide False)) ∧ True) ∧
(¬ (x101 ≠ x103) →
(((x107 ≠ x109) →
(q_Tells x0 s1 s2 x3 x4 (decide (b5 = true)) s6 (decide (b7 = true)) s8 (decide False)) ∧ True) ∧
(¬ (x107 ≠ x109) →
(p_paids s106 s108) ∧
(∀ b118 : Bool,
((q_paids s106 s108 (decide (b118 = true))) →
(((¬ (b118 = true)) →
(q_Tells x0 s1 s2 x3 x4 (decide (b5 = true)) s6 (decide (b7 = true)) s8 (decide False)) ∧ True) ∧
(¬ (¬ (b118 = true)) →
(((x114 ≠ x116) →
(q_Tells x0 s1 s2 x3 x4 (decide (b5 = true)) s6 (decide (b7 = true)) s8 (decide False)) ∧ True) ∧
(¬ (x114 ≠ x116) →
(((x115 ≠ x117) →
(q_Tells x0 s1 s2 x3 x4 (decide (b5 = true)) s6 (decide (b7 = true)) s8 (decide False)) ∧ True) ∧
(¬ (x115 ≠ x117) →
(p_Same x0 s1 s2 x0 (Sl.app (Sl.lit []) s1) (Sl.app (Sl.lit []) s2)) ∧
(∀ b119 : Bool,
((q_Same x0 s1 s2 x0 (Sl.app (Sl.lit []) s1) (Sl.app (Sl.lit []) s2) (decide (b119 = true))) →
(((¬ (b119 = true)) →
(q_Tells x0 s1 s2 x3 x4 (decide (b5 = true)) s6 (decide (b7 = true)) s8 (decide False)) ∧ True) ∧
(¬ (¬ (b119 = true)) →
(p_rValid x0 (Sl.app (Sl.lit []) s1) (Sl.app (Sl.lit []) s2)) ∧
(∀ b120 : Bool,
((q_rValid x0 (Sl.app (Sl.lit []) s1) (Sl.app (Sl.lit []) s2) (decide (b120 = true))) →
(((¬ (b120 = true)) →
(((x105 = 2) →
(((x104 = 0) →
(((x113 = x105) →
(V_Tells_0 x0 s1 s2 x3 x4 b5 s6 b7 s8 x110 s111 s112)) ∧
(¬ (x113 = x105) →
(q_Tells x0 s1 s2 x3 x4 (decide (b5 = true)) s6 (decide (b7 = true)) s8 (decide False)) ∧ True))) ∧
(¬ (x104 = 0) →
(q_Tells x0 s1 s2 x3 x4 (decide (b5 = true)) s6 (decide (b7 = true)) s8 (decide False)) ∧ True))) ∧
(¬ (x105 = 2) →
(q_Tells x0 s1 s2 x3 x4 (decide (b5 = true)) s6 (decide (b7 = true)) s8 (decide False)) ∧ True))) ∧
(¬ (¬ (b120 = true)) →
(((x105 ≠ 0) →
(q_Tells x0 s1 s2 x3 x4 (decide (b5 = true)) s6 (decide (b7 = true)) s8 (decide False)) ∧ True) ∧
(¬ (x105 ≠ 0) →
(p_xOutstanding x0 (Sl.app (Sl.lit []) s1) (Sl.app (Sl.lit []) s2) x4) ∧
(∀ x121 : Int,
((Rng .i64 x121) →
((q_xOutstanding x0 (Sl.app (Sl.lit []) s1) (Sl.app (Sl.lit []) s2) x4 x121) →
(((x104 ≠ x121) →
(q_Tells x0 s1 s2 x3 x4 (decide (b5 = true)) s6 (decide (b7 = true)) s8 (decide False)) ∧ True) ∧
(¬ (x104 ≠ x121) →
(((x109 ≠ 0) →
(((x113 = x109) →
(V_Tells_0 x0 s1 s2 x3 x4 b5 s6 b7 s8 x110 s111 s112)) ∧
(¬ (x113 = x109) →
(q_Tells x0 s1 s2 x3 x4 (decide (b5 = true)) s6 (decide (b7 = true)) s8 (decide False)) ∧ True))) ∧
(¬ (x109 ≠ 0) →
(p_xPost x0 (Sl.app (Sl.lit []) s1) (Sl.app (Sl.lit []) s2) s108) ∧
(∀ x122 : Int,
((Rng .i64 x122) →
(∀ s123 : Sl,
((Ranged s123 [some .i64]) →
(∀ s124 : Sl,
((Ranged s124 [some .i64, some .i64, some .u8, some .i64]) →
(∀ x125 : Int,
((Rng .i64 x125) →
((q_xPost x0 (Sl.app (Sl.lit []) s1) (Sl.app (Sl.lit []) s2) s108 x122 s123 s124 x125) →
(((x113 = x125) →
(p_Same x110 s111 s112 x122 s123 s124) ∧
(∀ b126 : Bool,
((q_Same x110 s111 s112 x122 s123 s124 (decide (b126 = true))) →
(((b126 = true) →
(p_awake ) ∧
(∀ b127 : Bool,
((q_awake  (decide (b127 = true))) →
(q_Tells x0 s1 s2 x3 x4 (decide (b5 = true)) s6 (decide (b7 = true)) s8 (decide (b127 = true))) ∧ True))) ∧
(¬ (b126 = true) →
(q_Tells x0 s1 s2 x3 x4 (decide (b5 = true)) s6 (decide (b7 = true)) s8 (decide False)) ∧ True))))) ∧
(¬ (x113 = x125) →
(q_Tells x0 s1 s2 x3 x4 (decide (b5 = true)) s6 (decide (b7 = true)) s8 (decide False)) ∧ True))))))))))))))))))))))))))))))))))))))))))))))))))))))))))))))))))))))))))))))))))))))
def V_Tells : Prop :=
(∀ x0 : Int,
((Rng .i64 x0) →
(∀ s1 : Sl,
((Ranged s1 [some .i64]) →
(∀ s2 : Sl,
((Ranged s2 [some .i64, some .i64, some .u8, some .i64]) →
(∀ x3 : Int,
((Rng .i64 x3) →
(∀ x4 : Int,
((Rng .i64 x4) →
(∀ b5 : Bool,
(∀ s6 : Sl,
((Ranged s6 [some .u16]) →
(∀ b7 : Bool,
(∀ s8 : Sl,
((Ranged s8 [some .u16]) →
((p_Tells x0 s1 s2 x3 x4 (decide (b5 = true)) s6 (decide (b7 = true)) s8) →
(p_few x0 s1 s2) ∧
(∀ b9 : Bool,
((q_few x0 s1 s2 (decide (b9 = true))) →
(((¬ (b9 = true)) →
(p_awake ) ∧
(∀ b10 : Bool,
((q_awake  (decide (b10 = true))) →
(q_Tells x0 s1 s2 x3 x4 (decide (b5 = true)) s6 (decide (b7 = true)) s8 (decide (b10 = true))) ∧ True))) ∧
(¬ (¬ (b9 = true)) →
(p_light (decide (b5 = true)) s6 (decide (b7 = true)) s8) ∧
(∀ b10 : Bool,
((q_light (decide (b5 = true)) s6 (decide (b7 = true)) s8 (decide (b10 = true))) →
(((¬ (b10 = true)) →
(p_awake ) ∧
(∀ b11 : Bool,
((q_awake  (decide (b11 = true))) →
(q_Tells x0 s1 s2 x3 x4 (decide (b5 = true)) s6 (decide (b7 = true)) s8 (decide (b11 = true))) ∧ True))) ∧
(¬ (¬ (b10 = true)) →
(((((V_Tells_1 x0 s1 s2 x3 x4 b5 s6 b7 s8)) ∧
((V_Tells_1 x0 s1 s2 x3 x4 b5 s6 b7 s8)))) ∧
((V_Tells_1 x0 s1 s2 x3 x4 b5 s6 b7 s8))))))))))))))))))))))))))))
end Go.Sx.N
