/-
  The condition of the law Learns, and that it is what the executor says. Conditions: none; printed by a program of our own.
-/
import Derived.Test.YtlhjljekeobplaaLedT
import Derived.KernelRfl
namespace Go.Sx.L
open Go.Proofs
def V_Learns : Prop :=
(∀ x0 : Int,
((Rng .i64 x0) →
(∀ s1 : Sl,
(∀ s2 : Sl,
(∀ x3 : Int,
((Rng .u8 x3) →
(∀ x4 : Int,
((Rng .u32 x4) →
(∀ x5 : Int,
((Rng .u32 x5) →
((p_Learns x0 s1 s2 x3 x4 x5) →
(p_usable x0 s1 s2) ∧
(∀ b6 : Bool,
((q_usable x0 s1 s2 (decide (b6 = true))) →
(((¬ (b6 = true)) →
(p_awake ) ∧
(∀ b7 : Bool,
((q_awake  (decide (b7 = true))) →
(q_Learns x0 s1 s2 x3 x4 x5 (decide (b7 = true))) ∧ True))) ∧
(¬ (¬ (b6 = true)) →
((Small s1) →
(Rng .i64 ((Sl.len s1) + 1)) ∧
(((Sl.len s1) + 1) ≠ 0) ∧
(Rng .i64 (Int.tmod x3 ((Sl.len s1) + 1))) ∧
(Rng .i64 (x0 + (Int.tmod x3 ((Sl.len s1) + 1)))) ∧
(p_Learn x0 s1 s2 (x0 + (Int.tmod x3 ((Sl.len s1) + 1))) x4) ∧
(∀ x7 : Int,
((Rng .i64 x7) →
(∀ s8 : Sl,
(∀ s9 : Sl,
(∀ x10 : Int,
((Rng .i64 x10) →
((q_Learn x0 s1 s2 (x0 + (Int.tmod x3 ((Sl.len s1) + 1))) x4 x7 s8 s9 x10) →
(((x10 ≠ 0) →
(((x10 = 5) →
((Small s1) →
((((Int.tmod x3 ((Sl.len s1) + 1)) = (Sl.len s1)) →
((((x0 + (Int.tmod x3 ((Sl.len s1) + 1))) = 2400) →
(p_awake ) ∧
(∀ b11 : Bool,
((q_awake  (decide (b11 = true))) →
(q_Learns x0 s1 s2 x3 x4 x5 (decide (b11 = true))) ∧ True))) ∧
(¬ ((x0 + (Int.tmod x3 ((Sl.len s1) + 1))) = 2400) →
(q_Learns x0 s1 s2 x3 x4 x5 (decide False)) ∧ True))) ∧
(¬ ((Int.tmod x3 ((Sl.len s1) + 1)) = (Sl.len s1)) →
(q_Learns x0 s1 s2 x3 x4 x5 (decide False)) ∧ True)))) ∧
(¬ (x10 = 5) →
(q_Learns x0 s1 s2 x3 x4 x5 (decide False)) ∧ True))) ∧
(¬ (x10 ≠ 0) →
(p_Learn x7 s8 s9 (x0 + (Int.tmod x3 ((Sl.len s1) + 1))) x5) ∧
(∀ x11 : Int,
((Rng .i64 x11) →
(∀ s12 : Sl,
(∀ s13 : Sl,
(∀ x14 : Int,
((Rng .i64 x14) →
((q_Learn x7 s8 s9 (x0 + (Int.tmod x3 ((Sl.len s1) + 1))) x5 x11 s12 s13 x14) →
(p_Learn x0 s1 s2 (x0 + (Int.tmod x3 ((Sl.len s1) + 1))) x5) ∧
(∀ x15 : Int,
((Rng .i64 x15) →
(∀ s16 : Sl,
(∀ s17 : Sl,
(∀ x18 : Int,
((Rng .i64 x18) →
((q_Learn x0 s1 s2 (x0 + (Int.tmod x3 ((Sl.len s1) + 1))) x5 x15 s16 s17 x18) →
(((x14 ≠ 0) →
(q_Learns x0 s1 s2 x3 x4 x5 (decide False)) ∧ True) ∧
(¬ (x14 ≠ 0) →
(((x18 ≠ 0) →
(q_Learns x0 s1 s2 x3 x4 x5 (decide False)) ∧ True) ∧
(¬ (x18 ≠ 0) →
(p_Same x11 s12 s13 x15 s16 s17) ∧
(∀ b19 : Bool,
((q_Same x11 s12 s13 x15 s16 s17 (decide (b19 = true))) →
(((¬ (b19 = true)) →
(q_Learns x0 s1 s2 x3 x4 x5 (decide False)) ∧ True) ∧
(¬ (¬ (b19 = true)) →
(p_Valid x7 s8 s9) ∧
(∀ b20 : Bool,
((q_Valid x7 s8 s9 (decide (b20 = true))) →
(((¬ (b20 = true)) →
(q_Learns x0 s1 s2 x3 x4 x5 (decide False)) ∧ True) ∧
(¬ (¬ (b20 = true)) →
((Small s8) →
((Small s1) →
(Rng .i64 ((Int.tmod x3 ((Sl.len s1) + 1)) + 1)) ∧
((((Sl.len s8) ≠ (imax (Sl.len s1) ((Int.tmod x3 ((Sl.len s1) + 1)) + 1))) →
(q_Learns x0 s1 s2 x3 x4 x5 (decide False)) ∧ True) ∧
(¬ ((Sl.len s8) ≠ (imax (Sl.len s1) ((Int.tmod x3 ((Sl.len s1) + 1)) + 1))) →
((Small s8) →
(∃ (J21 : Int → Prop) (M21 : Int → Nat), J21 0 ∧
(∀ x22 : Int,
((Rng .i64 x22) →
(J21 x22 →
(((x22 < (Sl.len s8)) →
(Rng .i64 (x0 + x22)) ∧
(p_Open x7 s8 s9 (x0 + x22)) ∧
(∀ x23 : Int,
((Rng .i64 x23) →
(∀ x24 : Int,
((Rng .i64 x24) →
((q_Open x7 s8 s9 (x0 + x22) x23 x24) →
(Rng .i64 (x0 + x22)) ∧
(p_Open x0 s1 s2 (x0 + x22)) ∧
(∀ x25 : Int,
((Rng .i64 x25) →
(∀ x26 : Int,
((Rng .i64 x26) →
((q_Open x0 s1 s2 (x0 + x22) x25 x26) →
(((x24 ≠ 0) →
(q_Learns x0 s1 s2 x3 x4 x5 (decide False)) ∧ True) ∧
(¬ (x24 ≠ 0) →
((Small s1) →
(((x22 = (Sl.len s1)) →
(((x26 ≠ 6) →
(q_Learns x0 s1 s2 x3 x4 x5 (decide False)) ∧ True) ∧
(¬ (x26 ≠ 6) →
(((x23 ≠ x4) →
(q_Learns x0 s1 s2 x3 x4 x5 (decide False)) ∧ True) ∧
(¬ (x23 ≠ x4) →
((Small s1) →
(((x22 < (Sl.len s1)) →
(((x22 = (Int.tmod x3 ((Sl.len s1) + 1))) →
(Rng .i64 (x23 - x25)) ∧
((0 : Int) ≤ (Int.tmod x3 ((Sl.len s1) + 1))) ∧
((Int.tmod x3 ((Sl.len s1) + 1)) < (Sl.len s1)) ∧
((Rng .i64 (Sl.int s1 (Int.tmod x3 ((Sl.len s1) + 1)) 0)) →
(Rng .i64 (x4 - (Sl.int s1 (Int.tmod x3 ((Sl.len s1) + 1)) 0))) ∧
((((x23 - x25) ≠ (x4 - (Sl.int s1 (Int.tmod x3 ((Sl.len s1) + 1)) 0))) →
(q_Learns x0 s1 s2 x3 x4 x5 (decide False)) ∧ True) ∧
(¬ ((x23 - x25) ≠ (x4 - (Sl.int s1 (Int.tmod x3 ((Sl.len s1) + 1)) 0))) →
((Small s1) →
(((x22 < (Sl.len s1)) →
(((x22 ≠ (Int.tmod x3 ((Sl.len s1) + 1))) →
(((x23 ≠ x25) →
(q_Learns x0 s1 s2 x3 x4 x5 (decide False)) ∧ True) ∧
(¬ (x23 ≠ x25) →
(Rng .i64 (x22 + 1)) ∧
(J21 (x22 + 1) ∧ M21 (x22 + 1) < M21 x22)))) ∧
(¬ (x22 ≠ (Int.tmod x3 ((Sl.len s1) + 1))) →
(Rng .i64 (x22 + 1)) ∧
(J21 (x22 + 1) ∧ M21 (x22 + 1) < M21 x22)))) ∧
(¬ (x22 < (Sl.len s1)) →
(Rng .i64 (x22 + 1)) ∧
(J21 (x22 + 1) ∧ M21 (x22 + 1) < M21 x22)))))))) ∧
(¬ (x22 = (Int.tmod x3 ((Sl.len s1) + 1))) →
((Small s1) →
(((x22 < (Sl.len s1)) →
(((x22 ≠ (Int.tmod x3 ((Sl.len s1) + 1))) →
(((x23 ≠ x25) →
(q_Learns x0 s1 s2 x3 x4 x5 (decide False)) ∧ True) ∧
(¬ (x23 ≠ x25) →
(Rng .i64 (x22 + 1)) ∧
(J21 (x22 + 1) ∧ M21 (x22 + 1) < M21 x22)))) ∧
(¬ (x22 ≠ (Int.tmod x3 ((Sl.len s1) + 1))) →
(Rng .i64 (x22 + 1)) ∧
(J21 (x22 + 1) ∧ M21 (x22 + 1) < M21 x22)))) ∧
(¬ (x22 < (Sl.len s1)) →
(Rng .i64 (x22 + 1)) ∧
(J21 (x22 + 1) ∧ M21 (x22 + 1) < M21 x22))))))) ∧
(¬ (x22 < (Sl.len s1)) →
((Small s1) →
(((x22 < (Sl.len s1)) →
(((x22 ≠ (Int.tmod x3 ((Sl.len s1) + 1))) →
(((x23 ≠ x25) →
(q_Learns x0 s1 s2 x3 x4 x5 (decide False)) ∧ True) ∧
(¬ (x23 ≠ x25) →
(Rng .i64 (x22 + 1)) ∧
(J21 (x22 + 1) ∧ M21 (x22 + 1) < M21 x22)))) ∧
(¬ (x22 ≠ (Int.tmod x3 ((Sl.len s1) + 1))) →
(Rng .i64 (x22 + 1)) ∧
(J21 (x22 + 1) ∧ M21 (x22 + 1) < M21 x22)))) ∧
(¬ (x22 < (Sl.len s1)) →
(Rng .i64 (x22 + 1)) ∧
(J21 (x22 + 1) ∧ M21 (x22 + 1) < M21 x22)))))))))))) ∧
(¬ (x22 = (Sl.len s1)) →
((Small s1) →
(((x22 < (Sl.len s1)) →
(((x22 = (Int.tmod x3 ((Sl.len s1) + 1))) →
(Rng .i64 (x23 - x25)) ∧
((0 : Int) ≤ (Int.tmod x3 ((Sl.len s1) + 1))) ∧
((Int.tmod x3 ((Sl.len s1) + 1)) < (Sl.len s1)) ∧
((Rng .i64 (Sl.int s1 (Int.tmod x3 ((Sl.len s1) + 1)) 0)) →
(Rng .i64 (x4 - (Sl.int s1 (Int.tmod x3 ((Sl.len s1) + 1)) 0))) ∧
((((x23 - x25) ≠ (x4 - (Sl.int s1 (Int.tmod x3 ((Sl.len s1) + 1)) 0))) →
(q_Learns x0 s1 s2 x3 x4 x5 (decide False)) ∧ True) ∧
(¬ ((x23 - x25) ≠ (x4 - (Sl.int s1 (Int.tmod x3 ((Sl.len s1) + 1)) 0))) →
((Small s1) →
(((x22 < (Sl.len s1)) →
(((x22 ≠ (Int.tmod x3 ((Sl.len s1) + 1))) →
(((x23 ≠ x25) →
(q_Learns x0 s1 s2 x3 x4 x5 (decide False)) ∧ True) ∧
(¬ (x23 ≠ x25) →
(Rng .i64 (x22 + 1)) ∧
(J21 (x22 + 1) ∧ M21 (x22 + 1) < M21 x22)))) ∧
(¬ (x22 ≠ (Int.tmod x3 ((Sl.len s1) + 1))) →
(Rng .i64 (x22 + 1)) ∧
(J21 (x22 + 1) ∧ M21 (x22 + 1) < M21 x22)))) ∧
(¬ (x22 < (Sl.len s1)) →
(Rng .i64 (x22 + 1)) ∧
(J21 (x22 + 1) ∧ M21 (x22 + 1) < M21 x22)))))))) ∧
(¬ (x22 = (Int.tmod x3 ((Sl.len s1) + 1))) →
((Small s1) →
(((x22 < (Sl.len s1)) →
(((x22 ≠ (Int.tmod x3 ((Sl.len s1) + 1))) →
(((x23 ≠ x25) →
(q_Learns x0 s1 s2 x3 x4 x5 (decide False)) ∧ True) ∧
(¬ (x23 ≠ x25) →
(Rng .i64 (x22 + 1)) ∧
(J21 (x22 + 1) ∧ M21 (x22 + 1) < M21 x22)))) ∧
(¬ (x22 ≠ (Int.tmod x3 ((Sl.len s1) + 1))) →
(Rng .i64 (x22 + 1)) ∧
(J21 (x22 + 1) ∧ M21 (x22 + 1) < M21 x22)))) ∧
(¬ (x22 < (Sl.len s1)) →
(Rng .i64 (x22 + 1)) ∧
(J21 (x22 + 1) ∧ M21 (x22 + 1) < M21 x22))))))) ∧
(¬ (x22 < (Sl.len s1)) →
((Small s1) →
(((x22 < (Sl.len s1)) →
(((x22 ≠ (Int.tmod x3 ((Sl.len s1) + 1))) →
(((x23 ≠ x25) →
(q_Learns x0 s1 s2 x3 x4 x5 (decide False)) ∧ True) ∧
(¬ (x23 ≠ x25) →
(Rng .i64 (x22 + 1)) ∧
(J21 (x22 + 1) ∧ M21 (x22 + 1) < M21 x22)))) ∧
(¬ (x22 ≠ (Int.tmod x3 ((Sl.len s1) + 1))) →
(Rng .i64 (x22 + 1)) ∧
(J21 (x22 + 1) ∧ M21 (x22 + 1) < M21 x22)))) ∧
(¬ (x22 < (Sl.len s1)) →
(Rng .i64 (x22 + 1)) ∧
(J21 (x22 + 1) ∧ M21 (x22 + 1) < M21 x22))))))))))))))))))))))) ∧
(¬ (x22 < (Sl.len s8)) →
(p_awake ) ∧
(∀ b23 : Bool,
((q_awake  (decide (b23 = true))) →
(q_Learns x0 s1 s2 x3 x4 x5 (decide (b23 = true))) ∧ True))))))))))))))))))))))))))))))))))))))))))))))))))))))))))))))))
theorem j_Learns : (vc (A := sem Tb) (cfgAt [29, 47, 28, 26, 27, 25, 20, 44, 51, 24, 19, 12, 32, 11, 18, 14, 23, 13, 22, 17, 16, 21, 38, 15, 36, 37]) 6 3 ⟨[.agg [(.int .i64, false), (.sl 3, false), (.sl 47, false)], .cell (.int .u8) false, .cell (.int .u32) false, .cell (.int .u32) false], [.cell (.bool) false]⟩).den = V_Learns := by kernel_rfl
theorem l_Learns (h : SigOk Tb (cfgAt [29, 47, 28, 26, 27, 25, 20, 44, 51, 24, 19, 12, 32, 11, 18, 14, 23, 13, 22, 17, 16, 21, 38, 15, 36, 37])) (hv : V_Learns) : ConOK Try.prog 3 ⟨[.agg [(.int .i64, false), (.sl 3, false), (.sl 47, false)], .cell (.int .u8) false, .cell (.int .u32) false, .cell (.int .u32) false], [.cell (.bool) false]⟩ (Tb 3) := SigOk.law (l := [29, 47, 28, 26, 27, 25, 20, 44, 51, 24, 19, 12, 32, 11, 18, 14, 23, 13, 22, 17, 16, 21, 38, 15, 36, 37]) h j_Learns hv
end Go.Sx.L
