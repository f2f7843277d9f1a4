/-
  The conditions of the functions. Conditions: none; printed by a program of our own.
-/
import Derived.Test.YtljmbenpkbjmmaaGreatRecSpec
namespace Go.Sx.N
def V_Shares : Prop :=
(∀ x0 : Int,
((Rng .i64 x0) →
(∀ s1 : Sl,
((Ranged s1 [some .i64]) →
(∀ s2 : Sl,
((Ranged s2 [some .i64, some .i64, some .u8, some .i64]) →
(∀ x3 : Int,
((Rng .i64 x3) →
(∀ x4 : Int,
((Rng .i64 x4) →
(∀ x5 : Int,
((Rng .u8 x5) →
(∀ x6 : Int,
((Rng .u8 x6) →
(∀ x7 : Int,
((Rng .u8 x7) →
((p_Shares x0 s1 s2 x3 x4 x5 x6 x7) →
(p_few x0 s1 s2) ∧
(∀ b8 : Bool,
((q_few x0 s1 s2 (decide (b8 = true))) →
(((¬ (b8 = true)) →
(p_awake ) ∧
(∀ b9 : Bool,
((q_awake  (decide (b9 = true))) →
(q_Shares x0 s1 s2 x3 x4 x5 x6 x7 (decide (b9 = true))) ∧ True))) ∧
(¬ (¬ (b8 = true)) →
(Rng .i64 (x7 + 1)) ∧
(Rng .i64 ((x7 + 1) + 1)) ∧
(((x7 + 1) + 1) ≠ 0) ∧
(Rng .i64 (Int.tmod x5 ((x7 + 1) + 1))) ∧
(Rng .i64 ((x7 + 1) + 1)) ∧
(((x7 + 1) + 1) ≠ 0) ∧
(Rng .i64 (Int.tmod x6 ((x7 + 1) + 1))) ∧
(p_Part 0 1) ∧
(∀ b9 : Bool,
(∀ s10 : Sl,
((Ranged s10 [some .u16]) →
(∀ b11 : Bool,
(∀ s12 : Sl,
((Ranged s12 [some .u16]) →
((q_Part 0 1 (decide (b9 = true)) s10 (decide (b11 = true)) s12) →
(p_Take x0 s1 s2 x3 x4 (decide (b9 = true)) s10 (decide (b11 = true)) s12) ∧
(∀ s13 : Sl,
((Ranged s13 [some .i64, some .i64, some .u8, some .i64]) →
(∀ x14 : Int,
((Rng .i64 x14) →
((q_Take x0 s1 s2 x3 x4 (decide (b9 = true)) s10 (decide (b11 = true)) s12 s13 x14) →
((Small s13) →
(∃ (J15 : Int → Int → Prop) (M15 : Int → Int → Nat), J15 0 0 ∧
(∀ x16 : Int,
((Rng .i64 x16) →
(∀ x17 : Int,
((Rng .i64 x17) →
(J15 x16 x17 →
(((x17 < (Sl.len s13)) →
((0 : Int) ≤ x17) ∧
(x17 < (Sl.len s13)) ∧
((Rng .i64 (Sl.int s13 x17 0)) →
((Rng .i64 (Sl.int s13 x17 1)) →
((Rng .u8 (Sl.int s13 x17 2)) →
((Rng .i64 (Sl.int s13 x17 3)) →
(Rng .i64 (x16 - (Sl.int s13 x17 3))) ∧
(Rng .i64 (x17 + 1)) ∧
(J15 (x16 - (Sl.int s13 x17 3)) (x17 + 1) ∧ M15 (x16 - (Sl.int s13 x17 3)) (x17 + 1) < M15 x16 x17)))))) ∧
(¬ (x17 < (Sl.len s13)) →
(p_Part 1 1) ∧
(∀ b18 : Bool,
(∀ s19 : Sl,
((Ranged s19 [some .u16]) →
(∀ b20 : Bool,
(∀ s21 : Sl,
((Ranged s21 [some .u16]) →
((q_Part 1 1 (decide (b18 = true)) s19 (decide (b20 = true)) s21) →
(p_Take x0 s1 s2 x3 x4 (decide (b18 = true)) s19 (decide (b20 = true)) s21) ∧
(∀ s22 : Sl,
((Ranged s22 [some .i64, some .i64, some .u8, some .i64]) →
(∀ x23 : Int,
((Rng .i64 x23) →
((q_Take x0 s1 s2 x3 x4 (decide (b18 = true)) s19 (decide (b20 = true)) s21 s22 x23) →
((Small s22) →
(∃ (J24 : Int → Int → Prop) (M24 : Int → Int → Nat), J24 0 0 ∧
(∀ x25 : Int,
((Rng .i64 x25) →
(∀ x26 : Int,
((Rng .i64 x26) →
(J24 x25 x26 →
(((x26 < (Sl.len s22)) →
((0 : Int) ≤ x26) ∧
(x26 < (Sl.len s22)) ∧
((Rng .i64 (Sl.int s22 x26 0)) →
((Rng .i64 (Sl.int s22 x26 1)) →
((Rng .u8 (Sl.int s22 x26 2)) →
((Rng .i64 (Sl.int s22 x26 3)) →
(Rng .i64 (x25 - (Sl.int s22 x26 3))) ∧
(Rng .i64 (x26 + 1)) ∧
(J24 (x25 - (Sl.int s22 x26 3)) (x26 + 1) ∧ M24 (x25 - (Sl.int s22 x26 3)) (x26 + 1) < M24 x25 x26)))))) ∧
(¬ (x26 < (Sl.len s22)) →
(p_Part (imin (Int.tmod x5 ((x7 + 1) + 1)) (Int.tmod x6 ((x7 + 1) + 1))) (x7 + 1)) ∧
(∀ b27 : Bool,
(∀ s28 : Sl,
((Ranged s28 [some .u16]) →
(∀ b29 : Bool,
(∀ s30 : Sl,
((Ranged s30 [some .u16]) →
((q_Part (imin (Int.tmod x5 ((x7 + 1) + 1)) (Int.tmod x6 ((x7 + 1) + 1))) (x7 + 1) (decide (b27 = true)) s28 (decide (b29 = true)) s30) →
(p_Take x0 s1 s2 x3 x4 (decide (b27 = true)) s28 (decide (b29 = true)) s30) ∧
(∀ s31 : Sl,
((Ranged s31 [some .i64, some .i64, some .u8, some .i64]) →
(∀ x32 : Int,
((Rng .i64 x32) →
((q_Take x0 s1 s2 x3 x4 (decide (b27 = true)) s28 (decide (b29 = true)) s30 s31 x32) →
((Small s31) →
(∃ (J33 : Int → Int → Prop) (M33 : Int → Int → Nat), J33 0 0 ∧
(∀ x34 : Int,
((Rng .i64 x34) →
(∀ x35 : Int,
((Rng .i64 x35) →
(J33 x34 x35 →
(((x35 < (Sl.len s31)) →
((0 : Int) ≤ x35) ∧
(x35 < (Sl.len s31)) ∧
((Rng .i64 (Sl.int s31 x35 0)) →
((Rng .i64 (Sl.int s31 x35 1)) →
((Rng .u8 (Sl.int s31 x35 2)) →
((Rng .i64 (Sl.int s31 x35 3)) →
(Rng .i64 (x34 - (Sl.int s31 x35 3))) ∧
(Rng .i64 (x35 + 1)) ∧
(J33 (x34 - (Sl.int s31 x35 3)) (x35 + 1) ∧ M33 (x34 - (Sl.int s31 x35 3)) (x35 + 1) < M33 x34 x35)))))) ∧
(¬ (x35 < (Sl.len s31)) →
(p_Part (imax (Int.tmod x5 ((x7 + 1) + 1)) (Int.tmod x6 ((x7 + 1) + 1))) (x7 + 1)) ∧
(∀ b36 : Bool,
(∀ s37 : Sl,
((Ranged s37 [some .u16]) →
(∀ b38 : Bool,
(∀ s39 : Sl,
((Ranged s39 [some .u16]) →
((q_Part (imax (Int.tmod x5 ((x7 + 1) + 1)) (Int.tmod x6 ((x7 + 1) + 1))) (x7 + 1) (decide (b36 = true)) s37 (decide (b38 = true)) s39) →
(p_Take x0 s1 s2 x3 x4 (decide (b36 = true)) s37 (decide (b38 = true)) s39) ∧
(∀ s40 : Sl,
((Ranged s40 [some .i64, some .i64, some .u8, some .i64]) →
(∀ x41 : Int,
((Rng .i64 x41) →
((q_Take x0 s1 s2 x3 x4 (decide (b36 = true)) s37 (decide (b38 = true)) s39 s40 x41) →
((Small s40) →
(∃ (J42 : Int → Int → Prop) (M42 : Int → Int → Nat), J42 0 0 ∧
(∀ x43 : Int,
((Rng .i64 x43) →
(∀ x44 : Int,
((Rng .i64 x44) →
(J42 x43 x44 →
(((x44 < (Sl.len s40)) →
((0 : Int) ≤ x44) ∧
(x44 < (Sl.len s40)) ∧
((Rng .i64 (Sl.int s40 x44 0)) →
((Rng .i64 (Sl.int s40 x44 1)) →
((Rng .u8 (Sl.int s40 x44 2)) →
((Rng .i64 (Sl.int s40 x44 3)) →
(Rng .i64 (x43 - (Sl.int s40 x44 3))) ∧
(Rng .i64 (x44 + 1)) ∧
(J42 (x43 - (Sl.int s40 x44 3)) (x44 + 1) ∧ M42 (x43 - (Sl.int s40 x44 3)) (x44 + 1) < M42 x43 x44)))))) ∧
(¬ (x44 < (Sl.len s40)) →
(((x14 ≠ 0) →
(((x23 = x14) →
(((x32 = x14) →
(((x41 = x14) →
(Rng .i64 (x16 + x25)) ∧
(Rng .i64 ((x16 + x25) + x34)) ∧
(Rng .i64 (((x16 + x25) + x34) + x43)) ∧
((((((x16 + x25) + x34) + x43) = 0) →
(p_awake ) ∧
(∀ b45 : Bool,
((q_awake  (decide (b45 = true))) →
(q_Shares x0 s1 s2 x3 x4 x5 x6 x7 (decide (b45 = true))) ∧ True))) ∧
(¬ ((((x16 + x25) + x34) + x43) = 0) →
(q_Shares x0 s1 s2 x3 x4 x5 x6 x7 (decide False)) ∧ True))) ∧
(¬ (x41 = x14) →
(q_Shares x0 s1 s2 x3 x4 x5 x6 x7 (decide False)) ∧ True))) ∧
(¬ (x32 = x14) →
(q_Shares x0 s1 s2 x3 x4 x5 x6 x7 (decide False)) ∧ True))) ∧
(¬ (x23 = x14) →
(q_Shares x0 s1 s2 x3 x4 x5 x6 x7 (decide False)) ∧ True))) ∧
(¬ (x14 ≠ 0) →
(p_Outstanding x0 s1 s2 x4) ∧
(∀ x45 : Int,
((Rng .i64 x45) →
(∀ x46 : Int,
((Rng .i64 x46) →
((q_Outstanding x0 s1 s2 x4 x45 x46) →
(p_Part 1 1) ∧
(∀ b47 : Bool,
(∀ s48 : Sl,
((Ranged s48 [some .u16]) →
(∀ b49 : Bool,
(∀ s50 : Sl,
((Ranged s50 [some .u16]) →
((q_Part 1 1 (decide (b47 = true)) s48 (decide (b49 = true)) s50) →
(p_Limit x0 s1 s2 x4 (decide (b47 = true)) s48 (decide (b49 = true)) s50) ∧
(∀ x51 : Int,
((Rng .i64 x51) →
(∀ x52 : Int,
((Rng .i64 x52) →
((q_Limit x0 s1 s2 x4 (decide (b47 = true)) s48 (decide (b49 = true)) s50 x51 x52) →
(Rng .i64 (x23 + x32)) ∧
(Rng .i64 ((x23 + x32) + x41)) ∧
(Rng .i64 (((x23 + x32) + x41) + x46)) ∧
(Rng .i64 ((((x23 + x32) + x41) + x46) + x52)) ∧
(((((((x23 + x32) + x41) + x46) + x52) = 0) →
(((x16 = 0) →
(((x25 = (imin x45 x51)) →
(Rng .i64 (x4 - x0)) ∧
((0 : Int) ≤ (x4 - x0)) ∧
((x4 - x0) < (Sl.len s1)) ∧
((Rng .i64 (Sl.int s1 (x4 - x0) 0)) →
(((x51 = (Sl.int s1 (x4 - x0) 0)) →
(((x34 ≤ x43) →
(((x43 ≤ x25) →
(p_awake ) ∧
(∀ b53 : Bool,
((q_awake  (decide (b53 = true))) →
(q_Shares x0 s1 s2 x3 x4 x5 x6 x7 (decide (b53 = true))) ∧ True))) ∧
(¬ (x43 ≤ x25) →
(q_Shares x0 s1 s2 x3 x4 x5 x6 x7 (decide False)) ∧ True))) ∧
(¬ (x34 ≤ x43) →
(q_Shares x0 s1 s2 x3 x4 x5 x6 x7 (decide False)) ∧ True))) ∧
(¬ (x51 = (Sl.int s1 (x4 - x0) 0)) →
(q_Shares x0 s1 s2 x3 x4 x5 x6 x7 (decide False)) ∧ True)))) ∧
(¬ (x25 = (imin x45 x51)) →
(q_Shares x0 s1 s2 x3 x4 x5 x6 x7 (decide False)) ∧ True))) ∧
(¬ (x16 = 0) →
(q_Shares x0 s1 s2 x3 x4 x5 x6 x7 (decide False)) ∧ True))) ∧
(¬ (((((x23 + x32) + x41) + x46) + x52) = 0) →
(q_Shares x0 s1 s2 x3 x4 x5 x6 x7 (decide False)) ∧ True))))))))))))))))))))))))))))))))))))))))))))))))))))))))))))))))))))))))))))))))))))))))))))))))))))))))))))))))))))))))))))))
end Go.Sx.N
