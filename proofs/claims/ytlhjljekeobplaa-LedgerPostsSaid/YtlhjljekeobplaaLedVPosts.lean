/-
  The condition of the law Posts, and that it is what the executor says. Conditions: none; printed by a program of our own.
-/
import Derived.Test.YtlhjljekeobplaaLedT
import Derived.KernelRfl
namespace Go.Sx.L
open Go.Proofs
def V_Posts : Prop :=
(∀ x0 : Int,
((Rng .i64 x0) →
(∀ s1 : Sl,
(∀ s2 : Sl,
(∀ s3 : Sl,
((p_Posts x0 s1 s2 s3) →
(p_usable x0 s1 s2) ∧
(∀ b4 : Bool,
((q_usable x0 s1 s2 (decide (b4 = true))) →
(((¬ (b4 = true)) →
(p_awake ) ∧
(∀ b5 : Bool,
((q_awake  (decide (b5 = true))) →
(q_Posts x0 s1 s2 s3 (decide (b5 = true))) ∧ True))) ∧
(¬ (¬ (b4 = true)) →
((Small s3) →
((((Sl.len s3) > 20) →
(p_awake ) ∧
(∀ b5 : Bool,
((q_awake  (decide (b5 = true))) →
(q_Posts x0 s1 s2 s3 (decide (b5 = true))) ∧ True))) ∧
(¬ ((Sl.len s3) > 20) →
(p_Post x0 s1 s2 s3) ∧
(∀ x5 : Int,
((Rng .i64 x5) →
(∀ s6 : Sl,
(∀ s7 : Sl,
(∀ x8 : Int,
((Rng .i64 x8) →
((q_Post x0 s1 s2 s3 x5 s6 s7 x8) →
((Small s3) →
(∃ (J9 : Int → Int → Int → Sl → Sl → Prop) (M9 : Int → Int → Int → Sl → Sl → Nat), J9 0 0 x0 s1 s2 ∧
(∀ x10 : Int,
((Rng .i64 x10) →
(∀ x11 : Int,
((Rng .i64 x11) →
(∀ x12 : Int,
((Rng .i64 x12) →
(∀ s13 : Sl,
(∀ s14 : Sl,
(J9 x10 x11 x12 s13 s14 →
(((x11 < (Sl.len s3)) →
((0 : Int) ≤ x11) ∧
(x11 < (Sl.len s3)) ∧
((Rng .i64 (Sl.int s3 x11 0)) →
((Rng .i64 (Sl.int s3 x11 1)) →
((Rng .u8 (Sl.int s3 x11 2)) →
((Rng .i64 (Sl.int s3 x11 3)) →
(((x10 = 0) →
(p_Post x12 s13 s14 (Sl.lit [[(.int (Sl.int s3 x11 0)), (.int (Sl.int s3 x11 1)), (.int (Sl.int s3 x11 2)), (.int (Sl.int s3 x11 3))]])) ∧
(∀ x15 : Int,
((Rng .i64 x15) →
(∀ s16 : Sl,
(∀ s17 : Sl,
(∀ x18 : Int,
((Rng .i64 x18) →
((q_Post x12 s13 s14 (Sl.lit [[(.int (Sl.int s3 x11 0)), (.int (Sl.int s3 x11 1)), (.int (Sl.int s3 x11 2)), (.int (Sl.int s3 x11 3))]]) x15 s16 s17 x18) →
(Rng .i64 (x11 + 1)) ∧
(J9 x18 (x11 + 1) x15 s16 s17 ∧ M9 x18 (x11 + 1) x15 s16 s17 < M9 x10 x11 x12 s13 s14))))))))) ∧
(¬ (x10 = 0) →
(Rng .i64 (x11 + 1)) ∧
(J9 x10 (x11 + 1) x12 s13 s14 ∧ M9 x10 (x11 + 1) x12 s13 s14 < M9 x10 x11 x12 s13 s14)))))))) ∧
(¬ (x11 < (Sl.len s3)) →
(((x8 ≠ x10) →
(q_Posts x0 s1 s2 s3 (decide False)) ∧ True) ∧
(¬ (x8 ≠ x10) →
(((x8 ≠ 0) →
(((x8 = 2) →
(p_Same x5 s6 s7 0 Sl.nil Sl.nil) ∧
(∀ b15 : Bool,
((q_Same x5 s6 s7 0 Sl.nil Sl.nil (decide (b15 = true))) →
(((b15 = true) →
(p_awake ) ∧
(∀ b16 : Bool,
((q_awake  (decide (b16 = true))) →
(q_Posts x0 s1 s2 s3 (decide (b16 = true))) ∧ True))) ∧
(¬ (b15 = true) →
(q_Posts x0 s1 s2 s3 (decide False)) ∧ True))))) ∧
(¬ (x8 = 2) →
(q_Posts x0 s1 s2 s3 (decide False)) ∧ True))) ∧
(¬ (x8 ≠ 0) →
(p_Same x5 s6 s7 x12 s13 s14) ∧
(∀ b15 : Bool,
((q_Same x5 s6 s7 x12 s13 s14 (decide (b15 = true))) →
(((¬ (b15 = true)) →
(q_Posts x0 s1 s2 s3 (decide False)) ∧ True) ∧
(¬ (¬ (b15 = true)) →
(p_Valid x5 s6 s7) ∧
(∀ b16 : Bool,
((q_Valid x5 s6 s7 (decide (b16 = true))) →
(((¬ (b16 = true)) →
(q_Posts x0 s1 s2 s3 (decide False)) ∧ True) ∧
(¬ (¬ (b16 = true)) →
((Small s1) →
(∃ (J17 : Int → Prop) (M17 : Int → Nat), J17 0 ∧
(∀ x18 : Int,
((Rng .i64 x18) →
(J17 x18 →
(((x18 < (Sl.len s1)) →
(Rng .i64 (x0 + x18)) ∧
((Small s3) →
(∃ (J19 : Int → Int → Prop) (M19 : Int → Int → Nat), J19 0 0 ∧
(∀ x20 : Int,
((Rng .i64 x20) →
(∀ x21 : Int,
((Rng .i64 x21) →
(J19 x20 x21 →
(((x21 < (Sl.len s3)) →
((0 : Int) ≤ x21) ∧
(x21 < (Sl.len s3)) ∧
((Rng .i64 (Sl.int s3 x21 0)) →
((Rng .i64 (Sl.int s3 x21 1)) →
((Rng .u8 (Sl.int s3 x21 2)) →
((Rng .i64 (Sl.int s3 x21 3)) →
((((Sl.int s3 x21 1) = (x0 + x18)) →
((((Sl.int s3 x21 2) ≠ 3) →
(Rng .i64 (x20 + (Sl.int s3 x21 3))) ∧
(Rng .i64 (x21 + 1)) ∧
(J19 (x20 + (Sl.int s3 x21 3)) (x21 + 1) ∧ M19 (x20 + (Sl.int s3 x21 3)) (x21 + 1) < M19 x20 x21)) ∧
(¬ ((Sl.int s3 x21 2) ≠ 3) →
(Rng .i64 (x21 + 1)) ∧
(J19 x20 (x21 + 1) ∧ M19 x20 (x21 + 1) < M19 x20 x21)))) ∧
(¬ ((Sl.int s3 x21 1) = (x0 + x18)) →
(Rng .i64 (x21 + 1)) ∧
(J19 x20 (x21 + 1) ∧ M19 x20 (x21 + 1) < M19 x20 x21)))))))) ∧
(¬ (x21 < (Sl.len s3)) →
(p_Open x0 s1 s2 (x0 + x18)) ∧
(∀ x22 : Int,
((Rng .i64 x22) →
(∀ x23 : Int,
((Rng .i64 x23) →
((q_Open x0 s1 s2 (x0 + x18) x22 x23) →
(p_Open x5 s6 s7 (x0 + x18)) ∧
(∀ x24 : Int,
((Rng .i64 x24) →
(∀ x25 : Int,
((Rng .i64 x25) →
((q_Open x5 s6 s7 (x0 + x18) x24 x25) →
(((x23 ≠ 0) →
(q_Posts x0 s1 s2 s3 (decide False)) ∧ True) ∧
(¬ (x23 ≠ 0) →
(((x25 ≠ 0) →
(q_Posts x0 s1 s2 s3 (decide False)) ∧ True) ∧
(¬ (x25 ≠ 0) →
(Rng .i64 (x22 - x20)) ∧
(((x24 ≠ (x22 - x20)) →
(q_Posts x0 s1 s2 s3 (decide False)) ∧ True) ∧
(¬ (x24 ≠ (x22 - x20)) →
(Rng .i64 (x18 + 1)) ∧
(J17 (x18 + 1) ∧ M17 (x18 + 1) < M17 x18))))))))))))))))))))))))))) ∧
(¬ (x18 < (Sl.len s1)) →
(p_awake ) ∧
(∀ b19 : Bool,
((q_awake  (decide (b19 = true))) →
(q_Posts x0 s1 s2 s3 (decide (b19 = true))) ∧ True))))))))))))))))))))))))))))))))))))))))))))))))))))))
theorem j_Posts : (vc (A := sem Tb) (cfgAt [29, 47, 28, 26, 27, 25, 20, 44, 51, 24, 19, 12, 32, 11, 18, 14, 23, 13, 22, 17, 16, 21, 38, 15, 36, 37]) 6 8 ⟨[.agg [(.int .i64, false), (.sl 3, false), (.sl 47, false)], .cell (.sl 47) false], [.cell (.bool) false]⟩).den = V_Posts := by kernel_rfl
theorem l_Posts (h : SigOk Tb (cfgAt [29, 47, 28, 26, 27, 25, 20, 44, 51, 24, 19, 12, 32, 11, 18, 14, 23, 13, 22, 17, 16, 21, 38, 15, 36, 37])) (hv : V_Posts) : ConOK Try.prog 8 ⟨[.agg [(.int .i64, false), (.sl 3, false), (.sl 47, false)], .cell (.sl 47) false], [.cell (.bool) false]⟩ (Tb 8) := SigOk.law (l := [29, 47, 28, 26, 27, 25, 20, 44, 51, 24, 19, 12, 32, 11, 18, 14, 23, 13, 22, 17, 16, 21, 38, 15, 36, 37]) h j_Posts hv
end Go.Sx.L
