/-
  The conditions of the functions. Conditions: none; printed by a program of our own.
-/
import Derived.Test.YtmhhcnaflklapaaGreatLedSpec
set_option maxRecDepth 20000
namespace Go.Sx.N
def V_has : Prop :=
(∀ x0 : Int,
((Rng .i64 x0) →
(∀ s1 : Sl,
(∀ s2 : Sl,
(∀ x3 : Int,
((Rng .i64 x3) →
((p_has x0 s1 s2 x3) →
(((x0 ≤ x3) →
((Small s1) →
(Rng .i64 (x0 + (Sl.len s1))) ∧
(q_has x0 s1 s2 x3 (decide (x3 < (x0 + (Sl.len s1))))) ∧ True)) ∧
(¬ (x0 ≤ x3) →
(q_has x0 s1 s2 x3 (decide False)) ∧ True)))))))))
def V_follow : Prop :=
(∀ x0 : Int,
((Rng .i64 x0) →
(∀ s1 : Sl,
(∀ s2 : Sl,
(∀ s3 : Sl,
(∀ x4 : Int,
((Rng .i64 x4) →
((p_follow x0 s1 s2 s3 x4) →
((Small s3) →
(∃ (J5 : Int → Int → Prop) (M5 : Int → Int → Nat), J5 x4 0 ∧
(∀ x6 : Int,
((Rng .i64 x6) →
(∀ x7 : Int,
((Rng .i64 x7) →
(J5 x6 x7 →
(((x7 < (Sl.len s3)) →
((0 : Int) ≤ x7) ∧
(x7 < (Sl.len s3)) ∧
((Rng .i64 (Sl.int s3 x7 0)) →
((Rng .i64 (Sl.int s3 x7 1)) →
((Rng .u8 (Sl.int s3 x7 2)) →
((Rng .i64 (Sl.int s3 x7 3)) →
((((Sl.int s3 x7 0) < 0) →
(q_follow x0 s1 s2 s3 x4 (decide False)) ∧ True) ∧
(¬ ((Sl.int s3 x7 0) < 0) →
((((Sl.int s3 x7 0) ≥ 65536) →
(q_follow x0 s1 s2 s3 x4 (decide False)) ∧ True) ∧
(¬ ((Sl.int s3 x7 0) ≥ 65536) →
(p_has x0 s1 s2 (Sl.int s3 x7 1)) ∧
(∀ b8 : Bool,
((q_has x0 s1 s2 (Sl.int s3 x7 1) (decide (b8 = true))) →
(((¬ (b8 = true)) →
(q_follow x0 s1 s2 s3 x4 (decide False)) ∧ True) ∧
(¬ (¬ (b8 = true)) →
((((Sl.int s3 x7 2) = 1) →
((((0 : Int) ≤ (Sl.int s3 x7 3)) →
(((¬ ((Sl.int s3 x7 3) ≤ 1099511627776)) →
(q_follow x0 s1 s2 s3 x4 (decide False)) ∧ True) ∧
(¬ (¬ ((Sl.int s3 x7 3) ≤ 1099511627776)) →
((((Sl.int s3 x7 0) < x6) →
(q_follow x0 s1 s2 s3 x4 (decide False)) ∧ True) ∧
(¬ ((Sl.int s3 x7 0) < x6) →
(Rng .i64 (x7 + 1)) ∧
(J5 (Sl.int s3 x7 0) (x7 + 1) ∧ M5 (Sl.int s3 x7 0) (x7 + 1) < M5 x6 x7)))))) ∧
(¬ ((0 : Int) ≤ (Sl.int s3 x7 3)) →
(q_follow x0 s1 s2 s3 x4 (decide False)) ∧ True))) ∧
(¬ ((Sl.int s3 x7 2) = 1) →
((((Sl.int s3 x7 2) = 2) →
((((0 : Int) ≤ (Sl.int s3 x7 3)) →
(((¬ ((Sl.int s3 x7 3) ≤ 1099511627776)) →
(q_follow x0 s1 s2 s3 x4 (decide False)) ∧ True) ∧
(¬ (¬ ((Sl.int s3 x7 3) ≤ 1099511627776)) →
((((Sl.int s3 x7 0) < x6) →
(q_follow x0 s1 s2 s3 x4 (decide False)) ∧ True) ∧
(¬ ((Sl.int s3 x7 0) < x6) →
(Rng .i64 (x7 + 1)) ∧
(J5 (Sl.int s3 x7 0) (x7 + 1) ∧ M5 (Sl.int s3 x7 0) (x7 + 1) < M5 x6 x7)))))) ∧
(¬ ((0 : Int) ≤ (Sl.int s3 x7 3)) →
(q_follow x0 s1 s2 s3 x4 (decide False)) ∧ True))) ∧
(¬ ((Sl.int s3 x7 2) = 2) →
((((Sl.int s3 x7 2) = 3) →
((((0 : Int) ≤ (Sl.int s3 x7 3)) →
(((¬ ((Sl.int s3 x7 3) ≤ 1099511627776)) →
(q_follow x0 s1 s2 s3 x4 (decide False)) ∧ True) ∧
(¬ (¬ ((Sl.int s3 x7 3) ≤ 1099511627776)) →
((((Sl.int s3 x7 0) < x6) →
(q_follow x0 s1 s2 s3 x4 (decide False)) ∧ True) ∧
(¬ ((Sl.int s3 x7 0) < x6) →
(Rng .i64 (x7 + 1)) ∧
(J5 (Sl.int s3 x7 0) (x7 + 1) ∧ M5 (Sl.int s3 x7 0) (x7 + 1) < M5 x6 x7)))))) ∧
(¬ ((0 : Int) ≤ (Sl.int s3 x7 3)) →
(q_follow x0 s1 s2 s3 x4 (decide False)) ∧ True))) ∧
(¬ ((Sl.int s3 x7 2) = 3) →
((((Sl.int s3 x7 2) = 6) →
((((0 : Int) ≤ (Sl.int s3 x7 3)) →
(((¬ ((Sl.int s3 x7 3) ≤ 1099511627776)) →
(q_follow x0 s1 s2 s3 x4 (decide False)) ∧ True) ∧
(¬ (¬ ((Sl.int s3 x7 3) ≤ 1099511627776)) →
((((Sl.int s3 x7 0) < x6) →
(q_follow x0 s1 s2 s3 x4 (decide False)) ∧ True) ∧
(¬ ((Sl.int s3 x7 0) < x6) →
(Rng .i64 (x7 + 1)) ∧
(J5 (Sl.int s3 x7 0) (x7 + 1) ∧ M5 (Sl.int s3 x7 0) (x7 + 1) < M5 x6 x7)))))) ∧
(¬ ((0 : Int) ≤ (Sl.int s3 x7 3)) →
(q_follow x0 s1 s2 s3 x4 (decide False)) ∧ True))) ∧
(¬ ((Sl.int s3 x7 2) = 6) →
((((Sl.int s3 x7 2) = 4) →
(((((-1099511627776) : Int) ≤ (Sl.int s3 x7 3)) →
(((¬ ((Sl.int s3 x7 3) ≤ 0)) →
(q_follow x0 s1 s2 s3 x4 (decide False)) ∧ True) ∧
(¬ (¬ ((Sl.int s3 x7 3) ≤ 0)) →
((((Sl.int s3 x7 0) < x6) →
(q_follow x0 s1 s2 s3 x4 (decide False)) ∧ True) ∧
(¬ ((Sl.int s3 x7 0) < x6) →
(Rng .i64 (x7 + 1)) ∧
(J5 (Sl.int s3 x7 0) (x7 + 1) ∧ M5 (Sl.int s3 x7 0) (x7 + 1) < M5 x6 x7)))))) ∧
(¬ (((-1099511627776) : Int) ≤ (Sl.int s3 x7 3)) →
(q_follow x0 s1 s2 s3 x4 (decide False)) ∧ True))) ∧
(¬ ((Sl.int s3 x7 2) = 4) →
((((Sl.int s3 x7 2) = 5) →
(((((-1099511627776) : Int) ≤ (Sl.int s3 x7 3)) →
(((¬ ((Sl.int s3 x7 3) ≤ 0)) →
(q_follow x0 s1 s2 s3 x4 (decide False)) ∧ True) ∧
(¬ (¬ ((Sl.int s3 x7 3) ≤ 0)) →
((((Sl.int s3 x7 0) < x6) →
(q_follow x0 s1 s2 s3 x4 (decide False)) ∧ True) ∧
(¬ ((Sl.int s3 x7 0) < x6) →
(Rng .i64 (x7 + 1)) ∧
(J5 (Sl.int s3 x7 0) (x7 + 1) ∧ M5 (Sl.int s3 x7 0) (x7 + 1) < M5 x6 x7)))))) ∧
(¬ (((-1099511627776) : Int) ≤ (Sl.int s3 x7 3)) →
(q_follow x0 s1 s2 s3 x4 (decide False)) ∧ True))) ∧
(¬ ((Sl.int s3 x7 2) = 5) →
(q_follow x0 s1 s2 s3 x4 (decide False)) ∧ True))))))))))))))))))))))))) ∧
(¬ (x7 < (Sl.len s3)) →
(q_follow x0 s1 s2 s3 x4 (decide True)) ∧ True)))))))))))))))))
def V_Valid : Prop :=
(∀ x0 : Int,
((Rng .i64 x0) →
(∀ s1 : Sl,
(∀ s2 : Sl,
((p_Valid x0 s1 s2) →
(((x0 < 0) →
(q_Valid x0 s1 s2 (decide False)) ∧ True) ∧
(¬ (x0 < 0) →
(((x0 > 2400) →
(q_Valid x0 s1 s2 (decide False)) ∧ True) ∧
(¬ (x0 > 2400) →
((Small s1) →
((((Sl.len s1) > 1200) →
(q_Valid x0 s1 s2 (decide False)) ∧ True) ∧
(¬ ((Sl.len s1) > 1200) →
((Small s1) →
(Rng .i64 (x0 + (Sl.len s1))) ∧
((((x0 + (Sl.len s1)) > 2400) →
(q_Valid x0 s1 s2 (decide False)) ∧ True) ∧
(¬ ((x0 + (Sl.len s1)) > 2400) →
((Small s1) →
(∃ (J3 : Int → Prop) (M3 : Int → Nat), J3 0 ∧
(∀ x4 : Int,
((Rng .i64 x4) →
(J3 x4 →
(((x4 < (Sl.len s1)) →
((0 : Int) ≤ x4) ∧
(x4 < (Sl.len s1)) ∧
((Rng .i64 (Sl.int s1 x4 0)) →
((((Sl.int s1 x4 0) < 0) →
(((x4 ≥ 0) →
(q_Valid x0 s1 s2 (decide False)) ∧ True) ∧
(¬ (x4 ≥ 0) →
((Small s2) →
((((Sl.len s2) ≤ 4000) →
(p_follow x0 s1 s2 s2 0) ∧
(∀ b5 : Bool,
((q_follow x0 s1 s2 s2 0 (decide (b5 = true))) →
(q_Valid x0 s1 s2 (decide (b5 = true))) ∧ True))) ∧
(¬ ((Sl.len s2) ≤ 4000) →
(q_Valid x0 s1 s2 (decide False)) ∧ True)))))) ∧
(¬ ((Sl.int s1 x4 0) < 0) →
((((Sl.int s1 x4 0) > 1099511627776) →
(((x4 ≥ 0) →
(q_Valid x0 s1 s2 (decide False)) ∧ True) ∧
(¬ (x4 ≥ 0) →
((Small s2) →
((((Sl.len s2) ≤ 4000) →
(p_follow x0 s1 s2 s2 0) ∧
(∀ b5 : Bool,
((q_follow x0 s1 s2 s2 0 (decide (b5 = true))) →
(q_Valid x0 s1 s2 (decide (b5 = true))) ∧ True))) ∧
(¬ ((Sl.len s2) ≤ 4000) →
(q_Valid x0 s1 s2 (decide False)) ∧ True)))))) ∧
(¬ ((Sl.int s1 x4 0) > 1099511627776) →
(Rng .i64 (x4 + 1)) ∧
(J3 (x4 + 1) ∧ M3 (x4 + 1) < M3 x4))))))) ∧
(¬ (x4 < (Sl.len s1)) →
(((((-1) : Int) ≥ 0) →
(q_Valid x0 s1 s2 (decide False)) ∧ True) ∧
(¬ (((-1) : Int) ≥ 0) →
((Small s2) →
((((Sl.len s2) ≤ 4000) →
(p_follow x0 s1 s2 s2 0) ∧
(∀ b5 : Bool,
((q_follow x0 s1 s2 s2 0 (decide (b5 = true))) →
(q_Valid x0 s1 s2 (decide (b5 = true))) ∧ True))) ∧
(¬ ((Sl.len s2) ≤ 4000) →
(q_Valid x0 s1 s2 (decide False)) ∧ True)))))))))))))))))))))))))))
end Go.Sx.N
