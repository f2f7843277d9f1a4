/-
  The condition of the law Wrong, and that it is what the executor says. Conditions: none; printed by a program of our own.
-/
import Derived.Test.YtlhjljekeobplaaLedT
import Derived.KernelRfl
namespace Go.Sx.L
open Go.Proofs
def V_Wrong : Prop :=
(∀ x0 : Int,
((Rng .i64 x0) →
(∀ s1 : Sl,
(∀ s2 : Sl,
(∀ x3 : Int,
((Rng .u8 x3) →
(∀ x4 : Int,
((Rng .i64 x4) →
((p_Wrong x0 s1 s2 x3 x4) →
(p_usable x0 s1 s2) ∧
(∀ b5 : Bool,
((q_usable x0 s1 s2 (decide (b5 = true))) →
(((¬ (b5 = true)) →
(p_awake ) ∧
(∀ b6 : Bool,
((q_awake  (decide (b6 = true))) →
(q_Wrong x0 s1 s2 x3 x4 (decide (b6 = true))) ∧ True))) ∧
(¬ (¬ (b5 = true)) →
((Small s1) →
((((Sl.len s1) = 0) →
(p_awake ) ∧
(∀ b6 : Bool,
((q_awake  (decide (b6 = true))) →
(q_Wrong x0 s1 s2 x3 x4 (decide (b6 = true))) ∧ True))) ∧
(¬ ((Sl.len s1) = 0) →
(∃ J6 : Int → Prop,
((((Small s2) →
((((Sl.len s2) > 0) →
((Small s2) →
((0 : Int) ≤ (IntKind.wrap .i64 ((Sl.len s2) - 1))) ∧
((IntKind.wrap .i64 ((Sl.len s2) - 1)) < (Sl.len s2)) ∧
((Rng .i64 (Sl.int s2 (IntKind.wrap .i64 ((Sl.len s2) - 1)) 0)) → J6 (Sl.int s2 (IntKind.wrap .i64 ((Sl.len s2) - 1)) 0)))) ∧
(¬ ((Sl.len s2) > 0) → J6 0)))) ∧
((∀ x7 : Int,
((Rng .i64 x7) →
(J6 x7 →
(∃ J8 : Int → Int → Int → Int → Prop,
((((9 : Int) ≠ 0) ∧
(Rng .u8 (Int.tmod x3 9)) ∧
((((Int.tmod x3 9) = 0) → J8 (imax x4 65536) x0 1 1) ∧
(¬ ((Int.tmod x3 9) = 0) →
((((Int.tmod x3 9) = 1) → J8 (imin x4 (IntKind.wrap .i64 (x7 - 1))) x0 1 1) ∧
(¬ ((Int.tmod x3 9) = 1) →
((((Int.tmod x3 9) = 2) → J8 x7 (imin x4 (IntKind.wrap .i64 (x0 - 1))) 1 1) ∧
(¬ ((Int.tmod x3 9) = 2) →
((((Int.tmod x3 9) = 3) →
((Small s1) → J8 x7 (imax x4 (IntKind.wrap .i64 (x0 + (Sl.len s1)))) 1 1)) ∧
(¬ ((Int.tmod x3 9) = 3) →
((((Int.tmod x3 9) = 4) → J8 x7 x0 0 1) ∧
(¬ ((Int.tmod x3 9) = 4) →
((((Int.tmod x3 9) = 5) → J8 x7 x0 7 1) ∧
(¬ ((Int.tmod x3 9) = 5) →
((((Int.tmod x3 9) = 6) → J8 x7 x0 1 (imax x4 1099511627777)) ∧
(¬ ((Int.tmod x3 9) = 6) →
((((Int.tmod x3 9) = 7) → J8 x7 x0 1 (-1)) ∧
(¬ ((Int.tmod x3 9) = 7) →
((((Int.tmod x3 9) = 8) → J8 x7 x0 5 1) ∧
(¬ ((Int.tmod x3 9) = 8) → J8 x7 x0 1 1))))))))))))))))))) ∧
((∀ x9 : Int,
((Rng .i64 x9) →
(∀ x10 : Int,
((Rng .i64 x10) →
(∀ x11 : Int,
((Rng .u8 x11) →
(∀ x12 : Int,
((Rng .i64 x12) →
(J8 x9 x10 x11 x12 →
(p_Post x0 s1 s2 (Sl.lit [[(.int x7), (.int x0), (.int 1), (.int 1)]])) ∧
(∀ x13 : Int,
((Rng .i64 x13) →
(∀ s14 : Sl,
(∀ s15 : Sl,
(∀ x16 : Int,
((Rng .i64 x16) →
((q_Post x0 s1 s2 (Sl.lit [[(.int x7), (.int x0), (.int 1), (.int 1)]]) x13 s14 s15 x16) →
(((x16 ≠ 0) →
(q_Wrong x0 s1 s2 x3 x4 (decide False)) ∧ True) ∧
(¬ (x16 ≠ 0) →
(p_Post x0 s1 s2 (Sl.lit [[(.int x9), (.int x10), (.int x11), (.int x12)]])) ∧
(∀ x17 : Int,
((Rng .i64 x17) →
(∀ s18 : Sl,
(∀ s19 : Sl,
(∀ x20 : Int,
((Rng .i64 x20) →
((q_Post x0 s1 s2 (Sl.lit [[(.int x9), (.int x10), (.int x11), (.int x12)]]) x17 s18 s19 x20) →
(p_copied x0 s1 s2) ∧
(∀ x21 : Int,
((Rng .i64 x21) →
(∀ s22 : Sl,
(∀ s23 : Sl,
((q_copied x0 s1 s2 x21 s22 s23) →
((((Sl.len s23) + (Sl.len (Sl.lit [[(.int x9), (.int x10), (.int x11), (.int x12)]]))) * 32) ≤ 140737488355328) ∧
(∃ J24 : Int → Int → Int → Int → Int → Int → Sl → Sl → Int → Sl → Sl → Prop,
((((9 : Int) ≠ 0) ∧
(Rng .u8 (Int.tmod x3 9)) ∧
((((Int.tmod x3 9) = 1) →
((Small s2) →
((((Sl.len s2) = 0) →
(p_Post x0 s1 s2 (Sl.lit [[(.int (-1)), (.int x10), (.int x11), (.int x12)]])) ∧
(∀ x25 : Int,
((Rng .i64 x25) →
(∀ s26 : Sl,
(∀ s27 : Sl,
(∀ x28 : Int,
((Rng .i64 x28) →
((q_Post x0 s1 s2 (Sl.lit [[(.int (-1)), (.int x10), (.int x11), (.int x12)]]) x25 s26 s27 x28) →
((0 : Int) ≤ 0) ∧
((0 : Int) < (Sl.len (Sl.app s23 (Sl.lit [[(.int x9), (.int x10), (.int x11), (.int x12)]])))) ∧ J24 x28 (-1) x10 x11 x12 x25 s26 s27 x21 s22 (Sl.upd (Sl.app s23 (Sl.lit [[(.int x9), (.int x10), (.int x11), (.int x12)]])) 0 0 [(.int (-1)), (.int x10), (.int x11), (.int x12)]))))))))) ∧
(¬ ((Sl.len s2) = 0) → J24 x20 x9 x10 x11 x12 x17 s18 s19 x21 s22 (Sl.app s23 (Sl.lit [[(.int x9), (.int x10), (.int x11), (.int x12)]])))))) ∧
(¬ ((Int.tmod x3 9) = 1) → J24 x20 x9 x10 x11 x12 x17 s18 s19 x21 s22 (Sl.app s23 (Sl.lit [[(.int x9), (.int x10), (.int x11), (.int x12)]]))))) ∧
((∀ x25 : Int,
((Rng .i64 x25) →
(∀ x26 : Int,
((Rng .i64 x26) →
(∀ x27 : Int,
((Rng .i64 x27) →
(∀ x28 : Int,
((Rng .u8 x28) →
(∀ x29 : Int,
((Rng .i64 x29) →
(∀ x30 : Int,
((Rng .i64 x30) →
(∀ s31 : Sl,
(∀ s32 : Sl,
(∀ x33 : Int,
((Rng .i64 x33) →
(∀ s34 : Sl,
(∀ s35 : Sl,
(J24 x25 x26 x27 x28 x29 x30 s31 s32 x33 s34 s35 →
(p_Learn x0 s1 s2 x0 (imin x4 (-1))) ∧
(∀ x36 : Int,
((Rng .i64 x36) →
(∀ s37 : Sl,
(∀ s38 : Sl,
(∀ x39 : Int,
((Rng .i64 x39) →
((q_Learn x0 s1 s2 x0 (imin x4 (-1)) x36 s37 s38 x39) →
(p_Learn x0 s1 s2 x0 (imax x4 1099511627777)) ∧
(∀ x40 : Int,
((Rng .i64 x40) →
(∀ s41 : Sl,
(∀ s42 : Sl,
(∀ x43 : Int,
((Rng .i64 x43) →
((q_Learn x0 s1 s2 x0 (imax x4 1099511627777) x40 s41 s42 x43) →
((Small s1) →
(p_Learn x0 s1 s2 (IntKind.wrap .i64 ((IntKind.wrap .i64 (x0 + (Sl.len s1))) + 1)) 0) ∧
(∀ x44 : Int,
((Rng .i64 x44) →
(∀ s45 : Sl,
(∀ s46 : Sl,
(∀ x47 : Int,
((Rng .i64 x47) →
((q_Learn x0 s1 s2 (IntKind.wrap .i64 ((IntKind.wrap .i64 (x0 + (Sl.len s1))) + 1)) 0 x44 s45 s46 x47) →
(p_Learn x33 s34 s35 x0 0) ∧
(∀ x48 : Int,
((Rng .i64 x48) →
(∀ s49 : Sl,
(∀ s50 : Sl,
(∀ x51 : Int,
((Rng .i64 x51) →
((q_Learn x33 s34 s35 x0 0 x48 s49 s50 x51) →
(((x25 = 2) →
(p_Same x30 s31 s32 0 Sl.nil Sl.nil) ∧
(∀ b52 : Bool,
((q_Same x30 s31 s32 0 Sl.nil Sl.nil (decide (b52 = true))) →
(((b52 = true) →
(p_Valid x33 s34 s35) ∧
(∀ b53 : Bool,
((q_Valid x33 s34 s35 (decide (b53 = true))) →
(((¬ (b53 = true)) →
(((x39 = x25) →
(((x43 = x25) →
(((x47 = x25) →
(((x51 = x25) →
(p_Same x36 s37 s38 0 Sl.nil Sl.nil) ∧
(∀ b54 : Bool,
((q_Same x36 s37 s38 0 Sl.nil Sl.nil (decide (b54 = true))) →
(((b54 = true) →
(p_Same x40 s41 s42 0 Sl.nil Sl.nil) ∧
(∀ b55 : Bool,
((q_Same x40 s41 s42 0 Sl.nil Sl.nil (decide (b55 = true))) →
(((b55 = true) →
(p_Same x44 s45 s46 0 Sl.nil Sl.nil) ∧
(∀ b56 : Bool,
((q_Same x44 s45 s46 0 Sl.nil Sl.nil (decide (b56 = true))) →
(((b56 = true) →
(p_awake ) ∧
(∀ b57 : Bool,
((q_awake  (decide (b57 = true))) →
(q_Wrong x0 s1 s2 x3 x4 (decide (b57 = true))) ∧ True))) ∧
(¬ (b56 = true) →
(q_Wrong x0 s1 s2 x3 x4 (decide False)) ∧ True))))) ∧
(¬ (b55 = true) →
(q_Wrong x0 s1 s2 x3 x4 (decide False)) ∧ True))))) ∧
(¬ (b54 = true) →
(q_Wrong x0 s1 s2 x3 x4 (decide False)) ∧ True))))) ∧
(¬ (x51 = x25) →
(q_Wrong x0 s1 s2 x3 x4 (decide False)) ∧ True))) ∧
(¬ (x47 = x25) →
(q_Wrong x0 s1 s2 x3 x4 (decide False)) ∧ True))) ∧
(¬ (x43 = x25) →
(q_Wrong x0 s1 s2 x3 x4 (decide False)) ∧ True))) ∧
(¬ (x39 = x25) →
(q_Wrong x0 s1 s2 x3 x4 (decide False)) ∧ True))) ∧
(¬ (¬ (b53 = true)) →
(q_Wrong x0 s1 s2 x3 x4 (decide False)) ∧ True))))) ∧
(¬ (b52 = true) →
(q_Wrong x0 s1 s2 x3 x4 (decide False)) ∧ True))))) ∧
(¬ (x25 = 2) →
(q_Wrong x0 s1 s2 x3 x4 (decide False)) ∧ True))))))))))))))))))))))))))))))))))))))))))))))))))))))))))))))))))))))))))))))))))))))))))))))))))))))))))))
theorem j_Wrong : (vc (A := sem Tb) (cfgAt [29, 47, 28, 26, 27, 25, 20, 44, 51, 24, 19, 12, 32, 11, 18, 14, 23, 13, 22, 17, 16, 21, 38, 15, 36, 37]) 6 10 ⟨[.agg [(.int .i64, false), (.sl 3, false), (.sl 47, false)], .cell (.int .u8) false, .cell (.int .i64) false], [.cell (.bool) false]⟩).den = V_Wrong := by kernel_rfl
theorem l_Wrong (h : SigOk Tb (cfgAt [29, 47, 28, 26, 27, 25, 20, 44, 51, 24, 19, 12, 32, 11, 18, 14, 23, 13, 22, 17, 16, 21, 38, 15, 36, 37])) (hv : V_Wrong) : ConOK Try.prog 10 ⟨[.agg [(.int .i64, false), (.sl 3, false), (.sl 47, false)], .cell (.int .u8) false, .cell (.int .i64) false], [.cell (.bool) false]⟩ (Tb 10) := SigOk.law (l := [29, 47, 28, 26, 27, 25, 20, 44, 51, 24, 19, 12, 32, 11, 18, 14, 23, 13, 22, 17, 16, 21, 38, 15, 36, 37]) h j_Wrong hv
end Go.Sx.L
