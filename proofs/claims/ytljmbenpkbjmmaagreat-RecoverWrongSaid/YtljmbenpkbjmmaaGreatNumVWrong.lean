/-
  The conditions of the functions. Conditions: none; printed by a program of our own.
-/
import Derived.Test.YtljmbenpkbjmmaaGreatRecSpec
namespace Go.Sx.N
def V_Wrong : Prop :=
(∀ x0 : Int,
((Rng .i64 x0) →
(∀ s1 : Sl,
((Ranged s1 [some .i64]) →
(∀ s2 : Sl,
((Ranged s2 [some .i64, some .i64, some .u8, some .i64]) →
(∀ x3 : Int,
((Rng .i64 x3) →
((p_Wrong x0 s1 s2 x3) →
(p_few x0 s1 s2) ∧
(∀ b4 : Bool,
((q_few x0 s1 s2 (decide (b4 = true))) →
(((¬ (b4 = true)) →
(p_awake ) ∧
(∀ b5 : Bool,
((q_awake  (decide (b5 = true))) →
(q_Wrong x0 s1 s2 x3 (decide (b5 = true))) ∧ True))) ∧
(¬ (¬ (b4 = true)) →
(p_Valid x0 s1 s2) ∧
(∀ b5 : Bool,
((q_Valid x0 s1 s2 (decide (b5 = true))) →
(((¬ (b5 = true)) →
(p_awake ) ∧
(∀ b6 : Bool,
((q_awake  (decide (b6 = true))) →
(q_Wrong x0 s1 s2 x3 (decide (b6 = true))) ∧ True))) ∧
(¬ (¬ (b5 = true)) →
((Small s1) →
((((Sl.len s1) = 0) →
(p_awake ) ∧
(∀ b6 : Bool,
((q_awake  (decide (b6 = true))) →
(q_Wrong x0 s1 s2 x3 (decide (b6 = true))) ∧ True))) ∧
(¬ ((Sl.len s1) = 0) →
(p_Part (-1) 5) ∧
(∀ b6 : Bool,
(∀ s7 : Sl,
((Ranged s7 [some .u16]) →
(∀ b8 : Bool,
(∀ s9 : Sl,
((Ranged s9 [some .u16]) →
((q_Part (-1) 5 (decide (b6 = true)) s7 (decide (b8 = true)) s9) →
(p_Part 6 5) ∧
(∀ b10 : Bool,
(∀ s11 : Sl,
((Ranged s11 [some .u16]) →
(∀ b12 : Bool,
(∀ s13 : Sl,
((Ranged s13 [some .u16]) →
((q_Part 6 5 (decide (b10 = true)) s11 (decide (b12 = true)) s13) →
((Small (Sl.lit [[(.bool (decide False)), (Sl.d Sl.nil), (.bool (decide False)), (Sl.d Sl.nil)], [(.bool (decide (b6 = true))), (Sl.d s7), (.bool (decide (b8 = true))), (Sl.d s9)], [(.bool (decide (b10 = true))), (Sl.d s11), (.bool (decide (b12 = true))), (Sl.d s13)]])) →
(∃ (J14 : Int → Prop) (M14 : Int → Nat), J14 0 ∧
(∀ x15 : Int,
((Rng .i64 x15) →
(J14 x15 →
(((x15 < (Sl.len (Sl.lit [[(.bool (decide False)), (Sl.d Sl.nil), (.bool (decide False)), (Sl.d Sl.nil)], [(.bool (decide (b6 = true))), (Sl.d s7), (.bool (decide (b8 = true))), (Sl.d s9)], [(.bool (decide (b10 = true))), (Sl.d s11), (.bool (decide (b12 = true))), (Sl.d s13)]]))) →
((0 : Int) ≤ x15) ∧
(x15 < (Sl.len (Sl.lit [[(.bool (decide False)), (Sl.d Sl.nil), (.bool (decide False)), (Sl.d Sl.nil)], [(.bool (decide (b6 = true))), (Sl.d s7), (.bool (decide (b8 = true))), (Sl.d s9)], [(.bool (decide (b10 = true))), (Sl.d s11), (.bool (decide (b12 = true))), (Sl.d s13)]]))) ∧
((Ranged (Sl.sub (Sl.lit [[(.bool (decide False)), (Sl.d Sl.nil), (.bool (decide False)), (Sl.d Sl.nil)], [(.bool (decide (b6 = true))), (Sl.d s7), (.bool (decide (b8 = true))), (Sl.d s9)], [(.bool (decide (b10 = true))), (Sl.d s11), (.bool (decide (b12 = true))), (Sl.d s13)]]) x15 1) [some .u16]) →
((Ranged (Sl.sub (Sl.lit [[(.bool (decide False)), (Sl.d Sl.nil), (.bool (decide False)), (Sl.d Sl.nil)], [(.bool (decide (b6 = true))), (Sl.d s7), (.bool (decide (b8 = true))), (Sl.d s9)], [(.bool (decide (b10 = true))), (Sl.d s11), (.bool (decide (b12 = true))), (Sl.d s13)]]) x15 3) [some .u16]) →
(p_Limit x0 s1 s2 x0 (decide (Sl.bool (Sl.lit [[(.bool (decide False)), (Sl.d Sl.nil), (.bool (decide False)), (Sl.d Sl.nil)], [(.bool (decide (b6 = true))), (Sl.d s7), (.bool (decide (b8 = true))), (Sl.d s9)], [(.bool (decide (b10 = true))), (Sl.d s11), (.bool (decide (b12 = true))), (Sl.d s13)]]) x15 0 = true)) (Sl.sub (Sl.lit [[(.bool (decide False)), (Sl.d Sl.nil), (.bool (decide False)), (Sl.d Sl.nil)], [(.bool (decide (b6 = true))), (Sl.d s7), (.bool (decide (b8 = true))), (Sl.d s9)], [(.bool (decide (b10 = true))), (Sl.d s11), (.bool (decide (b12 = true))), (Sl.d s13)]]) x15 1) (decide (Sl.bool (Sl.lit [[(.bool (decide False)), (Sl.d Sl.nil), (.bool (decide False)), (Sl.d Sl.nil)], [(.bool (decide (b6 = true))), (Sl.d s7), (.bool (decide (b8 = true))), (Sl.d s9)], [(.bool (decide (b10 = true))), (Sl.d s11), (.bool (decide (b12 = true))), (Sl.d s13)]]) x15 2 = true)) (Sl.sub (Sl.lit [[(.bool (decide False)), (Sl.d Sl.nil), (.bool (decide False)), (Sl.d Sl.nil)], [(.bool (decide (b6 = true))), (Sl.d s7), (.bool (decide (b8 = true))), (Sl.d s9)], [(.bool (decide (b10 = true))), (Sl.d s11), (.bool (decide (b12 = true))), (Sl.d s13)]]) x15 3)) ∧
(∀ x16 : Int,
((Rng .i64 x16) →
(∀ x17 : Int,
((Rng .i64 x17) →
((q_Limit x0 s1 s2 x0 (decide (Sl.bool (Sl.lit [[(.bool (decide False)), (Sl.d Sl.nil), (.bool (decide False)), (Sl.d Sl.nil)], [(.bool (decide (b6 = true))), (Sl.d s7), (.bool (decide (b8 = true))), (Sl.d s9)], [(.bool (decide (b10 = true))), (Sl.d s11), (.bool (decide (b12 = true))), (Sl.d s13)]]) x15 0 = true)) (Sl.sub (Sl.lit [[(.bool (decide False)), (Sl.d Sl.nil), (.bool (decide False)), (Sl.d Sl.nil)], [(.bool (decide (b6 = true))), (Sl.d s7), (.bool (decide (b8 = true))), (Sl.d s9)], [(.bool (decide (b10 = true))), (Sl.d s11), (.bool (decide (b12 = true))), (Sl.d s13)]]) x15 1) (decide (Sl.bool (Sl.lit [[(.bool (decide False)), (Sl.d Sl.nil), (.bool (decide False)), (Sl.d Sl.nil)], [(.bool (decide (b6 = true))), (Sl.d s7), (.bool (decide (b8 = true))), (Sl.d s9)], [(.bool (decide (b10 = true))), (Sl.d s11), (.bool (decide (b12 = true))), (Sl.d s13)]]) x15 2 = true)) (Sl.sub (Sl.lit [[(.bool (decide False)), (Sl.d Sl.nil), (.bool (decide False)), (Sl.d Sl.nil)], [(.bool (decide (b6 = true))), (Sl.d s7), (.bool (decide (b8 = true))), (Sl.d s9)], [(.bool (decide (b10 = true))), (Sl.d s11), (.bool (decide (b12 = true))), (Sl.d s13)]]) x15 3) x16 x17) →
(((x16 ≠ 0) →
(q_Wrong x0 s1 s2 x3 (decide False)) ∧ True) ∧
(¬ (x16 ≠ 0) →
(((x17 ≠ 2) →
(q_Wrong x0 s1 s2 x3 (decide False)) ∧ True) ∧
(¬ (x17 ≠ 2) →
(Rng .i64 (x15 + 1)) ∧
(J14 (x15 + 1) ∧ M14 (x15 + 1) < M14 x15))))))))))))) ∧
(¬ (x15 < (Sl.len (Sl.lit [[(.bool (decide False)), (Sl.d Sl.nil), (.bool (decide False)), (Sl.d Sl.nil)], [(.bool (decide (b6 = true))), (Sl.d s7), (.bool (decide (b8 = true))), (Sl.d s9)], [(.bool (decide (b10 = true))), (Sl.d s11), (.bool (decide (b12 = true))), (Sl.d s13)]]))) →
(p_Part 1 2) ∧
(∀ b16 : Bool,
(∀ s17 : Sl,
((Ranged s17 [some .u16]) →
(∀ b18 : Bool,
(∀ s19 : Sl,
((Ranged s19 [some .u16]) →
((q_Part 1 2 (decide (b16 = true)) s17 (decide (b18 = true)) s19) →
(Rng .i64 (x0 - 1)) ∧
(p_Limit x0 s1 s2 (imin x3 (x0 - 1)) (decide (b16 = true)) s17 (decide (b18 = true)) s19) ∧
(∀ x20 : Int,
((Rng .i64 x20) →
(∀ x21 : Int,
((Rng .i64 x21) →
((q_Limit x0 s1 s2 (imin x3 (x0 - 1)) (decide (b16 = true)) s17 (decide (b18 = true)) s19 x20 x21) →
((Small s1) →
(Rng .i64 (x0 + (Sl.len s1))) ∧
(p_Limit x0 s1 s2 (imax x3 (x0 + (Sl.len s1))) (decide (b16 = true)) s17 (decide (b18 = true)) s19) ∧
(∀ x22 : Int,
((Rng .i64 x22) →
(∀ x23 : Int,
((Rng .i64 x23) →
((q_Limit x0 s1 s2 (imax x3 (x0 + (Sl.len s1))) (decide (b16 = true)) s17 (decide (b18 = true)) s19 x22 x23) →
(p_Take x0 s1 s2 (imin x3 (-1)) x0 (decide (b16 = true)) s17 (decide (b18 = true)) s19) ∧
(∀ s24 : Sl,
((Ranged s24 [some .i64, some .i64, some .u8, some .i64]) →
(∀ x25 : Int,
((Rng .i64 x25) →
((q_Take x0 s1 s2 (imin x3 (-1)) x0 (decide (b16 = true)) s17 (decide (b18 = true)) s19 s24 x25) →
(p_Take x0 s1 s2 (imax x3 65536) x0 (decide (b16 = true)) s17 (decide (b18 = true)) s19) ∧
(∀ s26 : Sl,
((Ranged s26 [some .i64, some .i64, some .u8, some .i64]) →
(∀ x27 : Int,
((Rng .i64 x27) →
((q_Take x0 s1 s2 (imax x3 65536) x0 (decide (b16 = true)) s17 (decide (b18 = true)) s19 s26 x27) →
((Small s1) →
(Rng .i64 (x0 + (Sl.len s1))) ∧
(p_Runs x0 s1 s2 (imax x3 (x0 + (Sl.len s1))) (decide (b16 = true)) s17 (decide (b18 = true)) s19) ∧
(∀ x28 : Int,
((Rng .i64 x28) →
(∀ x29 : Int,
((Rng .i64 x29) →
((q_Runs x0 s1 s2 (imax x3 (x0 + (Sl.len s1))) (decide (b16 = true)) s17 (decide (b18 = true)) s19 x28 x29) →
(p_Runs x0 s1 s2 x0 (decide (b16 = true)) s17 (decide (b18 = true)) s19) ∧
(∀ x30 : Int,
((Rng .i64 x30) →
(∀ x31 : Int,
((Rng .i64 x31) →
((q_Runs x0 s1 s2 x0 (decide (b16 = true)) s17 (decide (b18 = true)) s19 x30 x31) →
(((x21 = 6) →
(((x23 = x21) →
(((x29 = x21) →
(((x25 = 2) →
(((x27 = x25) →
(((x31 = 0) →
(((x30 = 0) →
(p_awake ) ∧
(∀ b32 : Bool,
((q_awake  (decide (b32 = true))) →
(q_Wrong x0 s1 s2 x3 (decide (b32 = true))) ∧ True))) ∧
(¬ (x30 = 0) →
(q_Wrong x0 s1 s2 x3 (decide False)) ∧ True))) ∧
(¬ (x31 = 0) →
(q_Wrong x0 s1 s2 x3 (decide False)) ∧ True))) ∧
(¬ (x27 = x25) →
(q_Wrong x0 s1 s2 x3 (decide False)) ∧ True))) ∧
(¬ (x25 = 2) →
(q_Wrong x0 s1 s2 x3 (decide False)) ∧ True))) ∧
(¬ (x29 = x21) →
(q_Wrong x0 s1 s2 x3 (decide False)) ∧ True))) ∧
(¬ (x23 = x21) →
(q_Wrong x0 s1 s2 x3 (decide False)) ∧ True))) ∧
(¬ (x21 = 6) →
(q_Wrong x0 s1 s2 x3 (decide False)) ∧ True))))))))))))))))))))))))))))))))))))))))))))))))))))))))))))))))))))))))))))))))))
end Go.Sx.N
