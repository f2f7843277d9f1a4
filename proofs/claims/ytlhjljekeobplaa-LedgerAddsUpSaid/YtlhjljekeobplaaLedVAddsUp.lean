/-
  The condition of the law AddsUp, and that it is what the executor says. Conditions: none; printed by a program of our own.
-/
import Derived.Test.YtlhjljekeobplaaLedT
import Derived.KernelRfl
namespace Go.Sx.L
open Go.Proofs
def V_AddsUp : Prop :=
(∀ x0 : Int,
((Rng .i64 x0) →
(∀ s1 : Sl,
(∀ s2 : Sl,
((p_AddsUp x0 s1 s2) →
(p_usable x0 s1 s2) ∧
(∀ b3 : Bool,
((q_usable x0 s1 s2 (decide (b3 = true))) →
(((¬ (b3 = true)) →
(p_awake ) ∧
(∀ b4 : Bool,
((q_awake  (decide (b4 = true))) →
(q_AddsUp x0 s1 s2 (decide (b4 = true))) ∧ True))) ∧
(¬ (¬ (b3 = true)) →
((Small s1) →
(∃ (J4 : Int → Int → Int → Prop) (M4 : Int → Int → Int → Nat), J4 0 0 0 ∧
(∀ x5 : Int,
((Rng .i64 x5) →
(∀ x6 : Int,
((Rng .i64 x6) →
(∀ x7 : Int,
((Rng .i64 x7) →
(J4 x5 x6 x7 →
(((x7 < (Sl.len s1)) →
((0 : Int) ≤ x7) ∧
(x7 < (Sl.len s1)) ∧
((Rng .i64 (Sl.int s1 x7 0)) →
(Rng .i64 (x0 + x7)) ∧
(p_Posted x0 s1 s2 (x0 + x7)) ∧
(∀ x8 : Int,
((Rng .i64 x8) →
(∀ x9 : Int,
((Rng .i64 x9) →
((q_Posted x0 s1 s2 (x0 + x7) x8 x9) →
(Rng .i64 (x0 + x7)) ∧
(p_Open x0 s1 s2 (x0 + x7)) ∧
(∀ x10 : Int,
((Rng .i64 x10) →
(∀ x11 : Int,
((Rng .i64 x11) →
((q_Open x0 s1 s2 (x0 + x7) x10 x11) →
(((x9 ≠ 0) →
(q_AddsUp x0 s1 s2 (decide False)) ∧ True) ∧
(¬ (x9 ≠ 0) →
(((x11 ≠ 0) →
(q_AddsUp x0 s1 s2 (decide False)) ∧ True) ∧
(¬ (x11 ≠ 0) →
(Rng .i64 (x8 + x10)) ∧
((((x8 + x10) ≠ (Sl.int s1 x7 0)) →
(q_AddsUp x0 s1 s2 (decide False)) ∧ True) ∧
(¬ ((x8 + x10) ≠ (Sl.int s1 x7 0)) →
(Rng .i64 (x5 + (Sl.int s1 x7 0))) ∧
(Rng .i64 (x6 + x8)) ∧
(Rng .i64 (x7 + 1)) ∧
(J4 (x5 + (Sl.int s1 x7 0)) (x6 + x8) (x7 + 1) ∧ M4 (x5 + (Sl.int s1 x7 0)) (x6 + x8) (x7 + 1) < M4 x5 x6 x7))))))))))))))))))) ∧
(¬ (x7 < (Sl.len s1)) →
((Small (Sl.lit [[(.int 1)], [(.int 2)], [(.int 4)], [(.int 5)], [(.int 6)]])) →
(∃ (J8 : Int → Int → Prop) (M8 : Int → Int → Nat), J8 0 0 ∧
(∀ x9 : Int,
((Rng .i64 x9) →
(∀ x10 : Int,
((Rng .i64 x10) →
(J8 x9 x10 →
(((x10 < (Sl.len (Sl.lit [[(.int 1)], [(.int 2)], [(.int 4)], [(.int 5)], [(.int 6)]]))) →
((0 : Int) ≤ x10) ∧
(x10 < (Sl.len (Sl.lit [[(.int 1)], [(.int 2)], [(.int 4)], [(.int 5)], [(.int 6)]]))) ∧
((Rng .u8 (Sl.int (Sl.lit [[(.int 1)], [(.int 2)], [(.int 4)], [(.int 5)], [(.int 6)]]) x10 0)) →
(p_Total x0 s1 s2 (Sl.int (Sl.lit [[(.int 1)], [(.int 2)], [(.int 4)], [(.int 5)], [(.int 6)]]) x10 0)) ∧
(∀ x11 : Int,
((Rng .i64 x11) →
(∀ x12 : Int,
((Rng .i64 x12) →
((q_Total x0 s1 s2 (Sl.int (Sl.lit [[(.int 1)], [(.int 2)], [(.int 4)], [(.int 5)], [(.int 6)]]) x10 0) x11 x12) →
(((x12 ≠ 0) →
(q_AddsUp x0 s1 s2 (decide False)) ∧ True) ∧
(¬ (x12 ≠ 0) →
(Rng .i64 (x9 + x11)) ∧
(Rng .i64 (x10 + 1)) ∧
(J8 (x9 + x11) (x10 + 1) ∧ M8 (x9 + x11) (x10 + 1) < M8 x9 x10)))))))))) ∧
(¬ (x10 < (Sl.len (Sl.lit [[(.int 1)], [(.int 2)], [(.int 4)], [(.int 5)], [(.int 6)]]))) →
(p_Balance x0 s1 s2 2400) ∧
(∀ x11 : Int,
((Rng .i64 x11) →
(∀ x12 : Int,
((Rng .i64 x12) →
((q_Balance x0 s1 s2 2400 x11 x12) →
(((x12 = 0) →
(((x9 = x6) →
(Rng .i64 (x9 + x11)) ∧
((((x9 + x11) = x5) →
(p_awake ) ∧
(∀ b13 : Bool,
((q_awake  (decide (b13 = true))) →
(q_AddsUp x0 s1 s2 (decide (b13 = true))) ∧ True))) ∧
(¬ ((x9 + x11) = x5) →
(q_AddsUp x0 s1 s2 (decide False)) ∧ True))) ∧
(¬ (x9 = x6) →
(q_AddsUp x0 s1 s2 (decide False)) ∧ True))) ∧
(¬ (x12 = 0) →
(q_AddsUp x0 s1 s2 (decide False)) ∧ True))))))))))))))))))))))))))))))))))))
theorem j_AddsUp : (vc (A := sem Tb) (cfgAt [12, 32, 11, 18, 14, 23, 13, 22, 17, 16, 21, 38, 15, 36, 37]) 6 6 ⟨[.agg [(.int .i64, false), (.sl 3, false), (.sl 47, false)]], [.cell (.bool) false]⟩).den = V_AddsUp := by kernel_rfl
theorem l_AddsUp (h : SigOk Tb (cfgAt [12, 32, 11, 18, 14, 23, 13, 22, 17, 16, 21, 38, 15, 36, 37])) (hv : V_AddsUp) : ConOK Try.prog 6 ⟨[.agg [(.int .i64, false), (.sl 3, false), (.sl 47, false)]], [.cell (.bool) false]⟩ (Tb 6) := (vc_sound h (j_AddsUp.mpr hv)).1
end Go.Sx.L
