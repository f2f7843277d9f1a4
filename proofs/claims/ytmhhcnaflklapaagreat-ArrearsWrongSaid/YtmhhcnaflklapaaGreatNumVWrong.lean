/-
  The conditions of the functions. Conditions: none; printed by a program of our own.
-/
import Derived.Test.YtmhhcnaflklapaaGreatArrSpec
set_option maxRecDepth 20000
namespace Go.Sx.N
def V_Wrong : Prop :=
(∀ x0 : Int,
((Rng .i64 x0) →
(∀ s1 : Sl,
((Ranged s1 [some .i64]) →
(∀ s2 : Sl,
((Ranged s2 [some .i64, some .i64, some .u8, some .i64]) →
(∀ x3 : Int,
((Rng .i64 x3) →
((p_Wrong x0 s1 s2 x3) →
(p_few x0 s1 s2 0) ∧
(∀ b4 : Bool,
((q_few x0 s1 s2 0 (decide (b4 = true))) →
(((¬ (b4 = true)) →
(p_aAwake ) ∧
(∀ b5 : Bool,
((q_aAwake  (decide (b5 = true))) →
(q_Wrong x0 s1 s2 x3 (decide (b5 = true))) ∧ True))) ∧
(¬ (¬ (b4 = true)) →
(p_Valid x0 s1 s2) ∧
(∀ b5 : Bool,
((q_Valid x0 s1 s2 (decide (b5 = true))) →
(((¬ (b5 = true)) →
(p_aAwake ) ∧
(∀ b6 : Bool,
((q_aAwake  (decide (b6 = true))) →
(q_Wrong x0 s1 s2 x3 (decide (b6 = true))) ∧ True))) ∧
(¬ (¬ (b5 = true)) →
(p_rates Sl.nil) ∧
(∀ y6 : ByteArray,
(∀ b7 : Bool,
(∀ s8 : Sl,
((Ranged s8 [some .i64, some .i64, some .i64, none, none, none, none]) →
((q_rates Sl.nil y6 (decide (b7 = true)) s8) →
((Small (Sl.lit [[(.int (imin x3 (-1))), (.int 5), (.int 6)], [(.int (imax x3 1099511627777)), (.int 5), (.int 6)], [(.int 1), (.int (imin x3 (-1))), (.int 6)], [(.int 1), (.int 7), (.int (imin x3 6))], [(.int 1), (.int 7), (.int (imax x3 2401))]])) →
(∃ (J9 : Int → Prop) (M9 : Int → Nat), J9 0 ∧
(∀ x10 : Int,
((Rng .i64 x10) →
(J9 x10 →
(((x10 < (Sl.len (Sl.lit [[(.int (imin x3 (-1))), (.int 5), (.int 6)], [(.int (imax x3 1099511627777)), (.int 5), (.int 6)], [(.int 1), (.int (imin x3 (-1))), (.int 6)], [(.int 1), (.int 7), (.int (imin x3 6))], [(.int 1), (.int 7), (.int (imax x3 2401))]]))) →
((0 : Int) ≤ x10) ∧
(x10 < (Sl.len (Sl.lit [[(.int (imin x3 (-1))), (.int 5), (.int 6)], [(.int (imax x3 1099511627777)), (.int 5), (.int 6)], [(.int 1), (.int (imin x3 (-1))), (.int 6)], [(.int 1), (.int 7), (.int (imin x3 6))], [(.int 1), (.int 7), (.int (imax x3 2401))]]))) ∧
((Rng .i64 (Sl.int (Sl.lit [[(.int (imin x3 (-1))), (.int 5), (.int 6)], [(.int (imax x3 1099511627777)), (.int 5), (.int 6)], [(.int 1), (.int (imin x3 (-1))), (.int 6)], [(.int 1), (.int 7), (.int (imin x3 6))], [(.int 1), (.int 7), (.int (imax x3 2401))]]) x10 0)) →
((Rng .i64 (Sl.int (Sl.lit [[(.int (imin x3 (-1))), (.int 5), (.int 6)], [(.int (imax x3 1099511627777)), (.int 5), (.int 6)], [(.int 1), (.int (imin x3 (-1))), (.int 6)], [(.int 1), (.int 7), (.int (imin x3 6))], [(.int 1), (.int 7), (.int (imax x3 2401))]]) x10 1)) →
((Rng .i64 (Sl.int (Sl.lit [[(.int (imin x3 (-1))), (.int 5), (.int 6)], [(.int (imax x3 1099511627777)), (.int 5), (.int 6)], [(.int 1), (.int (imin x3 (-1))), (.int 6)], [(.int 1), (.int 7), (.int (imin x3 6))], [(.int 1), (.int 7), (.int (imax x3 2401))]]) x10 2)) →
(p_Interest (Sl.int (Sl.lit [[(.int (imin x3 (-1))), (.int 5), (.int 6)], [(.int (imax x3 1099511627777)), (.int 5), (.int 6)], [(.int 1), (.int (imin x3 (-1))), (.int 6)], [(.int 1), (.int 7), (.int (imin x3 6))], [(.int 1), (.int 7), (.int (imax x3 2401))]]) x10 0) (Sl.int (Sl.lit [[(.int (imin x3 (-1))), (.int 5), (.int 6)], [(.int (imax x3 1099511627777)), (.int 5), (.int 6)], [(.int 1), (.int (imin x3 (-1))), (.int 6)], [(.int 1), (.int 7), (.int (imin x3 6))], [(.int 1), (.int 7), (.int (imax x3 2401))]]) x10 1) (Sl.int (Sl.lit [[(.int (imin x3 (-1))), (.int 5), (.int 6)], [(.int (imax x3 1099511627777)), (.int 5), (.int 6)], [(.int 1), (.int (imin x3 (-1))), (.int 6)], [(.int 1), (.int 7), (.int (imin x3 6))], [(.int 1), (.int 7), (.int (imax x3 2401))]]) x10 2) y6 (decide (b7 = true)) s8 0) ∧
(∀ x11 : Int,
((Rng .i64 x11) →
(∀ x12 : Int,
((Rng .i64 x12) →
((q_Interest (Sl.int (Sl.lit [[(.int (imin x3 (-1))), (.int 5), (.int 6)], [(.int (imax x3 1099511627777)), (.int 5), (.int 6)], [(.int 1), (.int (imin x3 (-1))), (.int 6)], [(.int 1), (.int 7), (.int (imin x3 6))], [(.int 1), (.int 7), (.int (imax x3 2401))]]) x10 0) (Sl.int (Sl.lit [[(.int (imin x3 (-1))), (.int 5), (.int 6)], [(.int (imax x3 1099511627777)), (.int 5), (.int 6)], [(.int 1), (.int (imin x3 (-1))), (.int 6)], [(.int 1), (.int 7), (.int (imin x3 6))], [(.int 1), (.int 7), (.int (imax x3 2401))]]) x10 1) (Sl.int (Sl.lit [[(.int (imin x3 (-1))), (.int 5), (.int 6)], [(.int (imax x3 1099511627777)), (.int 5), (.int 6)], [(.int 1), (.int (imin x3 (-1))), (.int 6)], [(.int 1), (.int 7), (.int (imin x3 6))], [(.int 1), (.int 7), (.int (imax x3 2401))]]) x10 2) y6 (decide (b7 = true)) s8 0 x11 x12) →
(((x11 ≠ 0) →
(q_Wrong x0 s1 s2 x3 (decide False)) ∧ True) ∧
(¬ (x11 ≠ 0) →
(((x12 ≠ 2) →
(q_Wrong x0 s1 s2 x3 (decide False)) ∧ True) ∧
(¬ (x12 ≠ 2) →
(Rng .i64 (x10 + 1)) ∧
(J9 (x10 + 1) ∧ M9 (x10 + 1) < M9 x10)))))))))))))) ∧
(¬ (x10 < (Sl.len (Sl.lit [[(.int (imin x3 (-1))), (.int 5), (.int 6)], [(.int (imax x3 1099511627777)), (.int 5), (.int 6)], [(.int 1), (.int (imin x3 (-1))), (.int 6)], [(.int 1), (.int 7), (.int (imin x3 6))], [(.int 1), (.int 7), (.int (imax x3 2401))]]))) →
(p_Interest 1 5 6 (bytes [114]) (decide True) Sl.nil 0) ∧
(∀ x11 : Int,
((Rng .i64 x11) →
(∀ x12 : Int,
((Rng .i64 x12) →
((q_Interest 1 5 6 (bytes [114]) (decide True) Sl.nil 0 x11 x12) →
(p_Owe x0 s1 s2 (imin x3 (-1)) 5 y6 (decide (b7 = true)) s8 0) ∧
(∀ s13 : Sl,
((Ranged s13 [some .i64, some .i64, some .u8, some .i64]) →
(∀ x14 : Int,
((Rng .i64 x14) →
((q_Owe x0 s1 s2 (imin x3 (-1)) 5 y6 (decide (b7 = true)) s8 0 s13 x14) →
(p_Owe x0 s1 s2 (imax x3 65536) 5 y6 (decide (b7 = true)) s8 0) ∧
(∀ s15 : Sl,
((Ranged s15 [some .i64, some .i64, some .u8, some .i64]) →
(∀ x16 : Int,
((Rng .i64 x16) →
((q_Owe x0 s1 s2 (imax x3 65536) 5 y6 (decide (b7 = true)) s8 0 s15 x16) →
(p_Owe x0 s1 s2 0 (imin x3 (-1)) y6 (decide (b7 = true)) s8 0) ∧
(∀ s17 : Sl,
((Ranged s17 [some .i64, some .i64, some .u8, some .i64]) →
(∀ x18 : Int,
((Rng .i64 x18) →
((q_Owe x0 s1 s2 0 (imin x3 (-1)) y6 (decide (b7 = true)) s8 0 s17 x18) →
(p_Owe x0 s1 s2 0 (imax x3 2401) y6 (decide (b7 = true)) s8 0) ∧
(∀ s19 : Sl,
((Ranged s19 [some .i64, some .i64, some .u8, some .i64]) →
(∀ x20 : Int,
((Rng .i64 x20) →
((q_Owe x0 s1 s2 0 (imax x3 2401) y6 (decide (b7 = true)) s8 0 s19 x20) →
(p_Owe x0 s1 s2 0 0 (bytes [114]) (decide True) Sl.nil 0) ∧
(∀ s21 : Sl,
((Ranged s21 [some .i64, some .i64, some .u8, some .i64]) →
(∀ x22 : Int,
((Rng .i64 x22) →
((q_Owe x0 s1 s2 0 0 (bytes [114]) (decide True) Sl.nil 0 s21 x22) →
(p_Owe x0 s1 s2 0 0 y6 (decide (b7 = true)) s8 0) ∧
(∀ s23 : Sl,
((Ranged s23 [some .i64, some .i64, some .u8, some .i64]) →
(∀ x24 : Int,
((Rng .i64 x24) →
((q_Owe x0 s1 s2 0 0 y6 (decide (b7 = true)) s8 0 s23 x24) →
(((x12 = 2) →
(((x14 = x12) →
(((x16 = x12) →
(((x18 = x12) →
(((x20 = x12) →
(((x22 = x12) →
((Small s23) →
((((Sl.len s23) = 0) →
(((x24 = 0) →
(p_aAwake ) ∧
(∀ b25 : Bool,
((q_aAwake  (decide (b25 = true))) →
(q_Wrong x0 s1 s2 x3 (decide (b25 = true))) ∧ True))) ∧
(¬ (x24 = 0) →
(q_Wrong x0 s1 s2 x3 (decide False)) ∧ True))) ∧
(¬ ((Sl.len s23) = 0) →
(q_Wrong x0 s1 s2 x3 (decide False)) ∧ True)))) ∧
(¬ (x22 = x12) →
(q_Wrong x0 s1 s2 x3 (decide False)) ∧ True))) ∧
(¬ (x20 = x12) →
(q_Wrong x0 s1 s2 x3 (decide False)) ∧ True))) ∧
(¬ (x18 = x12) →
(q_Wrong x0 s1 s2 x3 (decide False)) ∧ True))) ∧
(¬ (x16 = x12) →
(q_Wrong x0 s1 s2 x3 (decide False)) ∧ True))) ∧
(¬ (x14 = x12) →
(q_Wrong x0 s1 s2 x3 (decide False)) ∧ True))) ∧
(¬ (x12 = 2) →
(q_Wrong x0 s1 s2 x3 (decide False)) ∧ True))))))))))))))))))))))))))))))))))))))))))))))))))))))))))))))))))
end Go.Sx.N
