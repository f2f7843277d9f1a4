/-
  The condition of the law Before, and that it is what the executor says. Conditions: none; printed by a program of our own.
-/
import Derived.Test.YtlhjljekeobplaaLedT
import Derived.KernelRfl
namespace Go.Sx.L
open Go.Proofs
def V_Before : Prop :=
(∀ x0 : Int,
((Rng .i64 x0) →
(∀ s1 : Sl,
(∀ s2 : Sl,
(∀ x3 : Int,
((Rng .i64 x3) →
((p_Before x0 s1 s2 x3) →
(p_usable x0 s1 s2) ∧
(∀ b4 : Bool,
((q_usable x0 s1 s2 (decide (b4 = true))) →
(((¬ (b4 = true)) →
(p_awake ) ∧
(∀ b5 : Bool,
((q_awake  (decide (b5 = true))) →
(q_Before x0 s1 s2 x3 (decide (b5 = true))) ∧ True))) ∧
(¬ (¬ (b4 = true)) →
((Small s1) →
(∃ (J5 : Int → Int → Prop) (M5 : Int → Int → Nat), J5 0 0 ∧
(∀ x6 : Int,
((Rng .i64 x6) →
(∀ x7 : Int,
((Rng .i64 x7) →
(J5 x6 x7 →
(((x7 < (Sl.len s1)) →
(Rng .i64 (x0 + x7)) ∧
(p_Balance x0 s1 s2 (x0 + x7)) ∧
(∀ x8 : Int,
((Rng .i64 x8) →
(∀ x9 : Int,
((Rng .i64 x9) →
((q_Balance x0 s1 s2 (x0 + x7) x8 x9) →
(Rng .i64 (x0 + x7)) ∧
(p_Open x0 s1 s2 (x0 + x7)) ∧
(∀ x10 : Int,
((Rng .i64 x10) →
(∀ x11 : Int,
((Rng .i64 x11) →
((q_Open x0 s1 s2 (x0 + x7) x10 x11) →
(Rng .i64 (x0 + x7)) ∧
(Rng .i64 ((x0 + x7) + 1)) ∧
(p_Balance x0 s1 s2 ((x0 + x7) + 1)) ∧
(∀ x12 : Int,
((Rng .i64 x12) →
(∀ x13 : Int,
((Rng .i64 x13) →
((q_Balance x0 s1 s2 ((x0 + x7) + 1) x12 x13) →
(Rng .i64 (x9 + x11)) ∧
(Rng .i64 ((x9 + x11) + x13)) ∧
(((((x9 + x11) + x13) ≠ 0) →
(q_Before x0 s1 s2 x3 (decide False)) ∧ True) ∧
(¬ (((x9 + x11) + x13) ≠ 0) →
(((x8 ≠ x6) →
(q_Before x0 s1 s2 x3 (decide False)) ∧ True) ∧
(¬ (x8 ≠ x6) →
(Rng .i64 (x8 + x10)) ∧
(((x12 ≠ (x8 + x10)) →
(q_Before x0 s1 s2 x3 (decide False)) ∧ True) ∧
(¬ (x12 ≠ (x8 + x10)) →
(Rng .i64 (x7 + 1)) ∧
(J5 x12 (x7 + 1) ∧ M5 x12 (x7 + 1) < M5 x6 x7))))))))))))))))))))))) ∧
(¬ (x7 < (Sl.len s1)) →
((Small s1) →
(Rng .i64 (x0 + (Sl.len s1))) ∧
(p_Balance x0 s1 s2 (imax x3 (x0 + (Sl.len s1)))) ∧
(∀ x8 : Int,
((Rng .i64 x8) →
(∀ x9 : Int,
((Rng .i64 x9) →
((q_Balance x0 s1 s2 (imax x3 (x0 + (Sl.len s1))) x8 x9) →
(p_Balance x0 s1 s2 (imin x3 x0)) ∧
(∀ x10 : Int,
((Rng .i64 x10) →
(∀ x11 : Int,
((Rng .i64 x11) →
((q_Balance x0 s1 s2 (imin x3 x0) x10 x11) →
(((x9 = 0) →
(((x11 = 0) →
(((x8 = x6) →
(((x10 = 0) →
(p_awake ) ∧
(∀ b12 : Bool,
((q_awake  (decide (b12 = true))) →
(q_Before x0 s1 s2 x3 (decide (b12 = true))) ∧ True))) ∧
(¬ (x10 = 0) →
(q_Before x0 s1 s2 x3 (decide False)) ∧ True))) ∧
(¬ (x8 = x6) →
(q_Before x0 s1 s2 x3 (decide False)) ∧ True))) ∧
(¬ (x11 = 0) →
(q_Before x0 s1 s2 x3 (decide False)) ∧ True))) ∧
(¬ (x9 = 0) →
(q_Before x0 s1 s2 x3 (decide False)) ∧ True)))))))))))))))))))))))))))))))))
theorem j_Before : (vc (A := sem Tb) (cfgAt [29, 47, 28, 26, 27, 25, 20, 44, 51, 24, 19, 12, 32, 11, 18, 14, 23, 13, 22, 17, 16, 21, 38, 15, 36, 37]) 6 4 ⟨[.agg [(.int .i64, false), (.sl 3, false), (.sl 47, false)], .cell (.int .i64) false], [.cell (.bool) false]⟩).den = V_Before := by kernel_rfl
theorem l_Before (h : SigOk Tb (cfgAt [29, 47, 28, 26, 27, 25, 20, 44, 51, 24, 19, 12, 32, 11, 18, 14, 23, 13, 22, 17, 16, 21, 38, 15, 36, 37])) (hv : V_Before) : ConOK Try.prog 4 ⟨[.agg [(.int .i64, false), (.sl 3, false), (.sl 47, false)], .cell (.int .i64) false], [.cell (.bool) false]⟩ (Tb 4) := SigOk.law (l := [29, 47, 28, 26, 27, 25, 20, 44, 51, 24, 19, 12, 32, 11, 18, 14, 23, 13, 22, 17, 16, 21, 38, 15, 36, 37]) h j_Before hv
end Go.Sx.L
