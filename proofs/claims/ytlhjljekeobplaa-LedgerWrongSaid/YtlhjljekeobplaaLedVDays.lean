/-
  The condition of the law Days, and that it is what the executor says. Conditions: none; printed by a program of our own.
-/
import Derived.Test.YtlhjljekeobplaaLedT
import Derived.KernelRfl
namespace Go.Sx.L
open Go.Proofs
def V_Days : Prop :=
(∀ x0 : Int,
((Rng .i64 x0) →
(∀ s1 : Sl,
(∀ s2 : Sl,
(∀ x3 : Int,
((Rng .i64 x3) →
(∀ x4 : Int,
((Rng .i64 x4) →
((p_Days x0 s1 s2 x3 x4) →
(p_usable x0 s1 s2) ∧
(∀ b5 : Bool,
((q_usable x0 s1 s2 (decide (b5 = true))) →
(((¬ (b5 = true)) →
(p_awake ) ∧
(∀ b6 : Bool,
((q_awake  (decide (b6 = true))) →
(q_Days x0 s1 s2 x3 x4 (decide (b6 = true))) ∧ True))) ∧
(¬ (¬ (b5 = true)) →
(p_At x0 s1 s2 (imin x3 x4)) ∧
(∀ x6 : Int,
((Rng .i64 x6) →
(∀ s7 : Sl,
(∀ s8 : Sl,
(∀ x9 : Int,
((Rng .i64 x9) →
((q_At x0 s1 s2 (imin x3 x4) x6 s7 s8 x9) →
(p_At x0 s1 s2 (imax x3 x4)) ∧
(∀ x10 : Int,
((Rng .i64 x10) →
(∀ s11 : Sl,
(∀ s12 : Sl,
(∀ x13 : Int,
((Rng .i64 x13) →
((q_At x0 s1 s2 (imax x3 x4) x10 s11 s12 x13) →
(p_At x10 s11 s12 (imin x3 x4)) ∧
(∀ x14 : Int,
((Rng .i64 x14) →
(∀ s15 : Sl,
(∀ s16 : Sl,
(∀ x17 : Int,
((Rng .i64 x17) →
((q_At x10 s11 s12 (imin x3 x4) x14 s15 s16 x17) →
(Rng .i64 (x9 + x13)) ∧
(Rng .i64 ((x9 + x13) + x17)) ∧
(((((x9 + x13) + x17) ≠ 0) →
(q_Days x0 s1 s2 x3 x4 (decide False)) ∧ True) ∧
(¬ (((x9 + x13) + x17) ≠ 0) →
(p_Same x6 s7 s8 x14 s15 s16) ∧
(∀ b18 : Bool,
((q_Same x6 s7 s8 x14 s15 s16 (decide (b18 = true))) →
(((¬ (b18 = true)) →
(q_Days x0 s1 s2 x3 x4 (decide False)) ∧ True) ∧
(¬ (¬ (b18 = true)) →
(p_Valid x6 s7 s8) ∧
(∀ b19 : Bool,
((q_Valid x6 s7 s8 (decide (b19 = true))) →
(((¬ (b19 = true)) →
(q_Days x0 s1 s2 x3 x4 (decide False)) ∧ True) ∧
(¬ (¬ (b19 = true)) →
((Small s8) →
((Small s2) →
((((Sl.len s8) > (Sl.len s2)) →
(q_Days x0 s1 s2 x3 x4 (decide False)) ∧ True) ∧
(¬ ((Sl.len s8) > (Sl.len s2)) →
((Small s8) →
(∃ (J20 : Int → Prop) (M20 : Int → Nat), J20 0 ∧
(∀ x21 : Int,
((Rng .i64 x21) →
(J20 x21 →
(((x21 < (Sl.len s8)) →
((0 : Int) ≤ x21) ∧
(x21 < (Sl.len s8)) ∧
((Rng .i64 (Sl.int s8 x21 0)) →
((Rng .i64 (Sl.int s8 x21 1)) →
((Rng .u8 (Sl.int s8 x21 2)) →
((Rng .i64 (Sl.int s8 x21 3)) →
((0 : Int) ≤ x21) ∧
(x21 < (Sl.len s2)) ∧
((Rng .i64 (Sl.int s2 x21 0)) →
((Rng .i64 (Sl.int s2 x21 1)) →
((Rng .u8 (Sl.int s2 x21 2)) →
((Rng .i64 (Sl.int s2 x21 3)) →
(((¬ (((Sl.int s8 x21 0) = (Sl.int s2 x21 0)) ∧ (((Sl.int s8 x21 1) = (Sl.int s2 x21 1)) ∧ (((Sl.int s8 x21 2) = (Sl.int s2 x21 2)) ∧ ((Sl.int s8 x21 3) = (Sl.int s2 x21 3)))))) →
(q_Days x0 s1 s2 x3 x4 (decide False)) ∧ True) ∧
(¬ (¬ (((Sl.int s8 x21 0) = (Sl.int s2 x21 0)) ∧ (((Sl.int s8 x21 1) = (Sl.int s2 x21 1)) ∧ (((Sl.int s8 x21 2) = (Sl.int s2 x21 2)) ∧ ((Sl.int s8 x21 3) = (Sl.int s2 x21 3)))))) →
((((Sl.int s8 x21 0) > (imin x3 x4)) →
(q_Days x0 s1 s2 x3 x4 (decide False)) ∧ True) ∧
(¬ ((Sl.int s8 x21 0) > (imin x3 x4)) →
(Rng .i64 (x21 + 1)) ∧
(J20 (x21 + 1) ∧ M20 (x21 + 1) < M20 x21)))))))))))))) ∧
(¬ (x21 < (Sl.len s8)) →
((Small s8) →
((Small s2) →
((((Sl.len s8) < (Sl.len s2)) →
((Small s8) →
((0 : Int) ≤ (Sl.len s8)) ∧
((Sl.len s8) < (Sl.len s2)) ∧
((Rng .i64 (Sl.int s2 (Sl.len s8) 0)) →
((((Sl.int s2 (Sl.len s8) 0) ≤ (imin x3 x4)) →
(q_Days x0 s1 s2 x3 x4 (decide False)) ∧ True) ∧
(¬ ((Sl.int s2 (Sl.len s8) 0) ≤ (imin x3 x4)) →
((((Small s8) →
((((0 : Int) ≤ (Sl.len s8)) ∧
((Sl.len s8) ≤ (Sl.len s2)) ∧
((Sl.len s2) ≤ (Sl.len s2)) ∧
(((p_Post x6 s7 s8 (Sl.part s2 (Sl.len s8) (Sl.len s2))) ∧
(∀ x22 : Int,
((Rng .i64 x22) →
(∀ s23 : Sl,
(∀ s24 : Sl,
(∀ x25 : Int,
((Rng .i64 x25) →
((q_Post x6 s7 s8 (Sl.part s2 (Sl.len s8) (Sl.len s2)) x22 s23 s24 x25) →
(((x25 = 0) →
(p_Same x22 s23 s24 x0 s1 s2) ∧
(∀ b26 : Bool,
((q_Same x22 s23 s24 x0 s1 s2 (decide (b26 = true))) →
(((b26 = true) →
(p_awake ) ∧
(∀ b27 : Bool,
((q_awake  (decide (b27 = true))) →
(q_Days x0 s1 s2 x3 x4 (decide (b27 = true))) ∧ True))) ∧
(¬ (b26 = true) →
(q_Days x0 s1 s2 x3 x4 (decide False)) ∧ True))))) ∧
(¬ (x25 = 0) →
(q_Days x0 s1 s2 x3 x4 (decide False)) ∧ True)))))))))) ∧
((p_Post x6 s7 s8 (Sl.part s2 (Sl.len s8) (Sl.len s2))) ∧
(∀ x22 : Int,
((Rng .i64 x22) →
(∀ s23 : Sl,
(∀ s24 : Sl,
(∀ x25 : Int,
((Rng .i64 x25) →
((q_Post x6 s7 s8 (Sl.part s2 (Sl.len s8) (Sl.len s2)) x22 s23 s24 x25) →
(((x25 = 0) →
(p_Same x22 s23 s24 x0 s1 s2) ∧
(∀ b26 : Bool,
((q_Same x22 s23 s24 x0 s1 s2 (decide (b26 = true))) →
(((b26 = true) →
(p_awake ) ∧
(∀ b27 : Bool,
((q_awake  (decide (b27 = true))) →
(q_Days x0 s1 s2 x3 x4 (decide (b27 = true))) ∧ True))) ∧
(¬ (b26 = true) →
(q_Days x0 s1 s2 x3 x4 (decide False)) ∧ True))))) ∧
(¬ (x25 = 0) →
(q_Days x0 s1 s2 x3 x4 (decide False)) ∧ True)))))))))))) ∧
(((0 : Int) ≤ (Sl.len s8)) ∧
((Sl.len s8) ≤ (Sl.len s2)) ∧
((Sl.len s2) ≤ (Sl.len s2)) ∧
(p_Post x6 s7 s8 (Sl.part s2 (Sl.len s8) (Sl.len s2))) ∧
(∀ x22 : Int,
((Rng .i64 x22) →
(∀ s23 : Sl,
(∀ s24 : Sl,
(∀ x25 : Int,
((Rng .i64 x25) →
((q_Post x6 s7 s8 (Sl.part s2 (Sl.len s8) (Sl.len s2)) x22 s23 s24 x25) →
(((x25 = 0) →
(p_Same x22 s23 s24 x0 s1 s2) ∧
(∀ b26 : Bool,
((q_Same x22 s23 s24 x0 s1 s2 (decide (b26 = true))) →
(((b26 = true) →
(p_awake ) ∧
(∀ b27 : Bool,
((q_awake  (decide (b27 = true))) →
(q_Days x0 s1 s2 x3 x4 (decide (b27 = true))) ∧ True))) ∧
(¬ (b26 = true) →
(q_Days x0 s1 s2 x3 x4 (decide False)) ∧ True))))) ∧
(¬ (x25 = 0) →
(q_Days x0 s1 s2 x3 x4 (decide False)) ∧ True))))))))))))) ∧
(((Small s8) →
((0 : Int) ≤ (Sl.len s8)) ∧
((Sl.len s8) ≤ (Sl.len s2)) ∧
((Sl.len s2) ≤ (Sl.len s2)) ∧
(p_Post x6 s7 s8 (Sl.part s2 (Sl.len s8) (Sl.len s2))) ∧
(∀ x22 : Int,
((Rng .i64 x22) →
(∀ s23 : Sl,
(∀ s24 : Sl,
(∀ x25 : Int,
((Rng .i64 x25) →
((q_Post x6 s7 s8 (Sl.part s2 (Sl.len s8) (Sl.len s2)) x22 s23 s24 x25) →
(((x25 = 0) →
(p_Same x22 s23 s24 x0 s1 s2) ∧
(∀ b26 : Bool,
((q_Same x22 s23 s24 x0 s1 s2 (decide (b26 = true))) →
(((b26 = true) →
(p_awake ) ∧
(∀ b27 : Bool,
((q_awake  (decide (b27 = true))) →
(q_Days x0 s1 s2 x3 x4 (decide (b27 = true))) ∧ True))) ∧
(¬ (b26 = true) →
(q_Days x0 s1 s2 x3 x4 (decide False)) ∧ True))))) ∧
(¬ (x25 = 0) →
(q_Days x0 s1 s2 x3 x4 (decide False)) ∧ True))))))))))))))))) ∧
(¬ ((Sl.len s8) < (Sl.len s2)) →
((((Small s8) →
((((0 : Int) ≤ (Sl.len s8)) ∧
((Sl.len s8) ≤ (Sl.len s2)) ∧
((Sl.len s2) ≤ (Sl.len s2)) ∧
(((p_Post x6 s7 s8 (Sl.part s2 (Sl.len s8) (Sl.len s2))) ∧
(∀ x22 : Int,
((Rng .i64 x22) →
(∀ s23 : Sl,
(∀ s24 : Sl,
(∀ x25 : Int,
((Rng .i64 x25) →
((q_Post x6 s7 s8 (Sl.part s2 (Sl.len s8) (Sl.len s2)) x22 s23 s24 x25) →
(((x25 = 0) →
(p_Same x22 s23 s24 x0 s1 s2) ∧
(∀ b26 : Bool,
((q_Same x22 s23 s24 x0 s1 s2 (decide (b26 = true))) →
(((b26 = true) →
(p_awake ) ∧
(∀ b27 : Bool,
((q_awake  (decide (b27 = true))) →
(q_Days x0 s1 s2 x3 x4 (decide (b27 = true))) ∧ True))) ∧
(¬ (b26 = true) →
(q_Days x0 s1 s2 x3 x4 (decide False)) ∧ True))))) ∧
(¬ (x25 = 0) →
(q_Days x0 s1 s2 x3 x4 (decide False)) ∧ True)))))))))) ∧
((p_Post x6 s7 s8 (Sl.part s2 (Sl.len s8) (Sl.len s2))) ∧
(∀ x22 : Int,
((Rng .i64 x22) →
(∀ s23 : Sl,
(∀ s24 : Sl,
(∀ x25 : Int,
((Rng .i64 x25) →
((q_Post x6 s7 s8 (Sl.part s2 (Sl.len s8) (Sl.len s2)) x22 s23 s24 x25) →
(((x25 = 0) →
(p_Same x22 s23 s24 x0 s1 s2) ∧
(∀ b26 : Bool,
((q_Same x22 s23 s24 x0 s1 s2 (decide (b26 = true))) →
(((b26 = true) →
(p_awake ) ∧
(∀ b27 : Bool,
((q_awake  (decide (b27 = true))) →
(q_Days x0 s1 s2 x3 x4 (decide (b27 = true))) ∧ True))) ∧
(¬ (b26 = true) →
(q_Days x0 s1 s2 x3 x4 (decide False)) ∧ True))))) ∧
(¬ (x25 = 0) →
(q_Days x0 s1 s2 x3 x4 (decide False)) ∧ True)))))))))))) ∧
(((0 : Int) ≤ (Sl.len s8)) ∧
((Sl.len s8) ≤ (Sl.len s2)) ∧
((Sl.len s2) ≤ (Sl.len s2)) ∧
(p_Post x6 s7 s8 (Sl.part s2 (Sl.len s8) (Sl.len s2))) ∧
(∀ x22 : Int,
((Rng .i64 x22) →
(∀ s23 : Sl,
(∀ s24 : Sl,
(∀ x25 : Int,
((Rng .i64 x25) →
((q_Post x6 s7 s8 (Sl.part s2 (Sl.len s8) (Sl.len s2)) x22 s23 s24 x25) →
(((x25 = 0) →
(p_Same x22 s23 s24 x0 s1 s2) ∧
(∀ b26 : Bool,
((q_Same x22 s23 s24 x0 s1 s2 (decide (b26 = true))) →
(((b26 = true) →
(p_awake ) ∧
(∀ b27 : Bool,
((q_awake  (decide (b27 = true))) →
(q_Days x0 s1 s2 x3 x4 (decide (b27 = true))) ∧ True))) ∧
(¬ (b26 = true) →
(q_Days x0 s1 s2 x3 x4 (decide False)) ∧ True))))) ∧
(¬ (x25 = 0) →
(q_Days x0 s1 s2 x3 x4 (decide False)) ∧ True))))))))))))) ∧
(((Small s8) →
((0 : Int) ≤ (Sl.len s8)) ∧
((Sl.len s8) ≤ (Sl.len s2)) ∧
((Sl.len s2) ≤ (Sl.len s2)) ∧
(p_Post x6 s7 s8 (Sl.part s2 (Sl.len s8) (Sl.len s2))) ∧
(∀ x22 : Int,
((Rng .i64 x22) →
(∀ s23 : Sl,
(∀ s24 : Sl,
(∀ x25 : Int,
((Rng .i64 x25) →
((q_Post x6 s7 s8 (Sl.part s2 (Sl.len s8) (Sl.len s2)) x22 s23 s24 x25) →
(((x25 = 0) →
(p_Same x22 s23 s24 x0 s1 s2) ∧
(∀ b26 : Bool,
((q_Same x22 s23 s24 x0 s1 s2 (decide (b26 = true))) →
(((b26 = true) →
(p_awake ) ∧
(∀ b27 : Bool,
((q_awake  (decide (b27 = true))) →
(q_Days x0 s1 s2 x3 x4 (decide (b27 = true))) ∧ True))) ∧
(¬ (b26 = true) →
(q_Days x0 s1 s2 x3 x4 (decide False)) ∧ True))))) ∧
(¬ (x25 = 0) →
(q_Days x0 s1 s2 x3 x4 (decide False)) ∧ True)))))))))))))))))))))))))))))))))))))))))))))))))))))))))))))))))))))))
theorem j_Days : (vc (A := sem Tb) (cfgAt [29, 47, 28, 26, 27, 25, 20, 44, 51, 24, 19, 12, 32, 11, 18, 14, 23, 13, 22, 17, 16, 21, 38, 15, 36, 37]) 6 9 ⟨[.agg [(.int .i64, false), (.sl 3, false), (.sl 47, false)], .cell (.int .i64) false, .cell (.int .i64) false], [.cell (.bool) false]⟩).den = V_Days := by kernel_rfl
theorem l_Days (h : SigOk Tb (cfgAt [29, 47, 28, 26, 27, 25, 20, 44, 51, 24, 19, 12, 32, 11, 18, 14, 23, 13, 22, 17, 16, 21, 38, 15, 36, 37])) (hv : V_Days) : ConOK Try.prog 9 ⟨[.agg [(.int .i64, false), (.sl 3, false), (.sl 47, false)], .cell (.int .i64) false, .cell (.int .i64) false], [.cell (.bool) false]⟩ (Tb 9) := SigOk.law (l := [29, 47, 28, 26, 27, 25, 20, 44, 51, 24, 19, 12, 32, 11, 18, 14, 23, 13, 22, 17, 16, 21, 38, 15, 36, 37]) h j_Days hv
end Go.Sx.L
