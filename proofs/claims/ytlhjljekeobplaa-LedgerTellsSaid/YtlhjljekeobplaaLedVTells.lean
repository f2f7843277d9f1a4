/-
  The condition of the law Tells, and that it is what the executor says. Conditions: none; printed by a program of our own.
-/
import Derived.Test.YtlhjljekeobplaaLedT
import Derived.KernelRfl
namespace Go.Sx.L
open Go.Proofs
def V_Tells_0 (x0 : Int) (s1 : Sl) (s2 : Sl) (x3 : Int) (x4 : Int) (x5 : Int) (x6 : Int) (x8 : Int) (s9 : Sl) (s10 : Sl) (x16 : Int) (x17 : Int) (x18 : Int) (x19 : Int) (x20 : Int) (s21 : Sl) (s22 : Sl) (x23 : Int) : Prop :=
(((x19 ≠ 2) →
(q_Tells x0 s1 s2 x3 x4 x5 x6 (decide False)) ∧ True) ∧
(¬ (x19 ≠ 2) →
(((x18 ≠ 0) →
(q_Tells x0 s1 s2 x3 x4 x5 x6 (decide False)) ∧ True) ∧
(¬ (x18 ≠ 0) →
(((x17 ≠ 0) →
(q_Tells x0 s1 s2 x3 x4 x5 x6 (decide False)) ∧ True) ∧
(¬ (x17 ≠ 0) →
(((x23 ≠ 0) →
(q_Tells x0 s1 s2 x3 x4 x5 x6 (decide False)) ∧ True) ∧
(¬ (x23 ≠ 0) →
(p_rBalance x0 s9 s10 x4) ∧
(∀ x200 : Int,
((Rng .i64 x200) →
((q_rBalance x0 s9 s10 x4 x200) →
(((x16 ≠ x200) →
(q_Tells x0 s1 s2 x3 x4 x5 x6 (decide False)) ∧ True) ∧
(¬ (x16 ≠ x200) →
(p_rAt x0 s9 s10 x5) ∧
(∀ x201 : Int,
((Rng .i64 x201) →
(∀ s202 : Sl,
(∀ s203 : Sl,
((q_rAt x0 s9 s10 x5 x201 s202 s203) →
(p_Same x20 s21 s22 x201 s202 s203) ∧
(∀ b204 : Bool,
((q_Same x20 s21 s22 x201 s202 s203 (decide (b204 = true))) →
(((¬ (b204 = true)) →
(q_Tells x0 s1 s2 x3 x4 x5 x6 (decide False)) ∧ True) ∧
(¬ (¬ (b204 = true)) →
((Small s21) →
(∃ (J205 : Int → Int → Sl → Sl → Prop) (M205 : Int → Int → Sl → Sl → Nat), J205 0 x20 s21 s22 ∧
(∀ x206 : Int,
((Rng .i64 x206) →
(∀ x207 : Int,
((Rng .i64 x207) →
(∀ s208 : Sl,
(∀ s209 : Sl,
(J205 x206 x207 s208 s209 →
(((x206 < (Sl.len s21)) →
((0 : Int) ≤ x206) ∧
(x206 < (Sl.len s208)) ∧
((Rng .i64 (Sl.int s208 x206 0)) →
(Rng .i64 ((Sl.int s208 x206 0) + 1)) ∧
((0 : Int) ≤ x206) ∧
(x206 < (Sl.len s208)) ∧
(Rng .i64 (x206 + 1)) ∧
(J205 (x206 + 1) x207 (Sl.upd s208 x206 0 [(.int ((Sl.int s208 x206 0) + 1))]) s209 ∧ M205 (x206 + 1) x207 (Sl.upd s208 x206 0 [(.int ((Sl.int s208 x206 0) + 1))]) s209 < M205 x206 x207 s208 s209))) ∧
(¬ (x206 < (Sl.len s21)) →
((Small s209) →
(∃ (J210 : Int → Int → Sl → Sl → Prop) (M210 : Int → Int → Sl → Sl → Nat), J210 0 x207 s208 s209 ∧
(∀ x211 : Int,
((Rng .i64 x211) →
(∀ x212 : Int,
((Rng .i64 x212) →
(∀ s213 : Sl,
(∀ s214 : Sl,
(J210 x211 x212 s213 s214 →
(((x211 < (Sl.len s209)) →
((0 : Int) ≤ x211) ∧
(x211 < (Sl.len s214)) ∧
((Rng .i64 (Sl.int s214 x211 3)) →
(Rng .i64 ((Sl.int s214 x211 3) + 1)) ∧
((0 : Int) ≤ x211) ∧
(x211 < (Sl.len s214)) ∧
(Rng .i64 (x211 + 1)) ∧
(J210 (x211 + 1) x212 s213 (Sl.upd s214 x211 3 [(.int ((Sl.int s214 x211 3) + 1))]) ∧ M210 (x211 + 1) x212 s213 (Sl.upd s214 x211 3 [(.int ((Sl.int s214 x211 3) + 1))]) < M210 x211 x212 s213 s214))) ∧
(¬ (x211 < (Sl.len s209)) →
(p_Same x0 s1 s2 x8 s9 s10) ∧
(∀ b215 : Bool,
((q_Same x0 s1 s2 x8 s9 s10 (decide (b215 = true))) →
(((b215 = true) →
(p_awake ) ∧
(∀ b216 : Bool,
((q_awake  (decide (b216 = true))) →
(q_Tells x0 s1 s2 x3 x4 x5 x6 (decide (b216 = true))) ∧ True))) ∧
(¬ (b215 = true) →
(q_Tells x0 s1 s2 x3 x4 x5 x6 (decide False)) ∧ True))))))))))))))))))))))))))))))))))))))))))))))))
def V_Tells_1 (x0 : Int) (s1 : Sl) (s2 : Sl) (x3 : Int) (x4 : Int) (x5 : Int) (x6 : Int) (x8 : Int) (s9 : Sl) (s10 : Sl) (x16 : Int) (x17 : Int) (x20 : Int) (s21 : Sl) (s22 : Sl) (x23 : Int) : Prop :=
(((x17 ≠ 0) →
(q_Tells x0 s1 s2 x3 x4 x5 x6 (decide False)) ∧ True) ∧
(¬ (x17 ≠ 0) →
(((x23 ≠ 0) →
(q_Tells x0 s1 s2 x3 x4 x5 x6 (decide False)) ∧ True) ∧
(¬ (x23 ≠ 0) →
(p_rBalance x0 s9 s10 x4) ∧
(∀ x200 : Int,
((Rng .i64 x200) →
((q_rBalance x0 s9 s10 x4 x200) →
(((x16 ≠ x200) →
(q_Tells x0 s1 s2 x3 x4 x5 x6 (decide False)) ∧ True) ∧
(¬ (x16 ≠ x200) →
(p_rAt x0 s9 s10 x5) ∧
(∀ x201 : Int,
((Rng .i64 x201) →
(∀ s202 : Sl,
(∀ s203 : Sl,
((q_rAt x0 s9 s10 x5 x201 s202 s203) →
(p_Same x20 s21 s22 x201 s202 s203) ∧
(∀ b204 : Bool,
((q_Same x20 s21 s22 x201 s202 s203 (decide (b204 = true))) →
(((¬ (b204 = true)) →
(q_Tells x0 s1 s2 x3 x4 x5 x6 (decide False)) ∧ True) ∧
(¬ (¬ (b204 = true)) →
((Small s21) →
(∃ (J205 : Int → Int → Sl → Sl → Prop) (M205 : Int → Int → Sl → Sl → Nat), J205 0 x20 s21 s22 ∧
(∀ x206 : Int,
((Rng .i64 x206) →
(∀ x207 : Int,
((Rng .i64 x207) →
(∀ s208 : Sl,
(∀ s209 : Sl,
(J205 x206 x207 s208 s209 →
(((x206 < (Sl.len s21)) →
((0 : Int) ≤ x206) ∧
(x206 < (Sl.len s208)) ∧
((Rng .i64 (Sl.int s208 x206 0)) →
(Rng .i64 ((Sl.int s208 x206 0) + 1)) ∧
((0 : Int) ≤ x206) ∧
(x206 < (Sl.len s208)) ∧
(Rng .i64 (x206 + 1)) ∧
(J205 (x206 + 1) x207 (Sl.upd s208 x206 0 [(.int ((Sl.int s208 x206 0) + 1))]) s209 ∧ M205 (x206 + 1) x207 (Sl.upd s208 x206 0 [(.int ((Sl.int s208 x206 0) + 1))]) s209 < M205 x206 x207 s208 s209))) ∧
(¬ (x206 < (Sl.len s21)) →
((Small s209) →
(∃ (J210 : Int → Int → Sl → Sl → Prop) (M210 : Int → Int → Sl → Sl → Nat), J210 0 x207 s208 s209 ∧
(∀ x211 : Int,
((Rng .i64 x211) →
(∀ x212 : Int,
((Rng .i64 x212) →
(∀ s213 : Sl,
(∀ s214 : Sl,
(J210 x211 x212 s213 s214 →
(((x211 < (Sl.len s209)) →
((0 : Int) ≤ x211) ∧
(x211 < (Sl.len s214)) ∧
((Rng .i64 (Sl.int s214 x211 3)) →
(Rng .i64 ((Sl.int s214 x211 3) + 1)) ∧
((0 : Int) ≤ x211) ∧
(x211 < (Sl.len s214)) ∧
(Rng .i64 (x211 + 1)) ∧
(J210 (x211 + 1) x212 s213 (Sl.upd s214 x211 3 [(.int ((Sl.int s214 x211 3) + 1))]) ∧ M210 (x211 + 1) x212 s213 (Sl.upd s214 x211 3 [(.int ((Sl.int s214 x211 3) + 1))]) < M210 x211 x212 s213 s214))) ∧
(¬ (x211 < (Sl.len s209)) →
(p_Same x0 s1 s2 x8 s9 s10) ∧
(∀ b215 : Bool,
((q_Same x0 s1 s2 x8 s9 s10 (decide (b215 = true))) →
(((b215 = true) →
(p_awake ) ∧
(∀ b216 : Bool,
((q_awake  (decide (b216 = true))) →
(q_Tells x0 s1 s2 x3 x4 x5 x6 (decide (b216 = true))) ∧ True))) ∧
(¬ (b215 = true) →
(q_Tells x0 s1 s2 x3 x4 x5 x6 (decide False)) ∧ True))))))))))))))))))))))))))))))))))))))))))))
def V_Tells_2 (x0 : Int) (s1 : Sl) (s2 : Sl) (x3 : Int) (x4 : Int) (x5 : Int) (x6 : Int) (x8 : Int) (s9 : Sl) (s10 : Sl) (x16 : Int) (x17 : Int) (x18 : Int) (x19 : Int) (x20 : Int) (s21 : Sl) (s22 : Sl) (x23 : Int) : Prop :=
(((x6 < 1) →
(V_Tells_0 x0 s1 s2 x3 x4 x5 x6 x8 s9 s10 x16 x17 x18 x19 x20 s21 s22 x23)) ∧
(¬ (x6 < 1) →
(((x6 > 6) →
(V_Tells_0 x0 s1 s2 x3 x4 x5 x6 x8 s9 s10 x16 x17 x18 x19 x20 s21 s22 x23)) ∧
(¬ (x6 > 6) →
(((x19 ≠ 0) →
(q_Tells x0 s1 s2 x3 x4 x5 x6 (decide False)) ∧ True) ∧
(¬ (x19 ≠ 0) →
(p_rTotal x0 s9 s10 x6) ∧
(∀ x100 : Int,
((Rng .i64 x100) →
((q_rTotal x0 s9 s10 x6 x100) →
(((x18 ≠ x100) →
(q_Tells x0 s1 s2 x3 x4 x5 x6 (decide False)) ∧ True) ∧
(¬ (x18 ≠ x100) →
(V_Tells_1 x0 s1 s2 x3 x4 x5 x6 x8 s9 s10 x16 x17 x20 s21 s22 x23))))))))))))
def V_Tells : Prop :=
(∀ x0 : Int,
((Rng .i64 x0) →
(∀ s1 : Sl,
(∀ s2 : Sl,
(∀ x3 : Int,
((Rng .i64 x3) →
(∀ x4 : Int,
((Rng .i64 x4) →
(∀ x5 : Int,
((Rng .i64 x5) →
(∀ x6 : Int,
((Rng .u8 x6) →
((p_Tells x0 s1 s2 x3 x4 x5 x6) →
(p_Few x0 s1 s2) ∧
(∀ b7 : Bool,
((q_Few x0 s1 s2 (decide (b7 = true))) →
(((¬ (b7 = true)) →
(p_awake ) ∧
(∀ b8 : Bool,
((q_awake  (decide (b8 = true))) →
(q_Tells x0 s1 s2 x3 x4 x5 x6 (decide (b8 = true))) ∧ True))) ∧
(¬ (¬ (b7 = true)) →
(p_copied x0 s1 s2) ∧
(∀ x8 : Int,
((Rng .i64 x8) →
(∀ s9 : Sl,
(∀ s10 : Sl,
((q_copied x0 s1 s2 x8 s9 s10) →
(p_rValid x0 s9 s10) ∧
(∀ b11 : Bool,
((q_rValid x0 s9 s10 (decide (b11 = true))) →
(p_Posted x0 s1 s2 x3) ∧
(∀ x12 : Int,
((Rng .i64 x12) →
(∀ x13 : Int,
((Rng .i64 x13) →
((q_Posted x0 s1 s2 x3 x12 x13) →
(p_Open x0 s1 s2 x3) ∧
(∀ x14 : Int,
((Rng .i64 x14) →
(∀ x15 : Int,
((Rng .i64 x15) →
((q_Open x0 s1 s2 x3 x14 x15) →
(p_Balance x0 s1 s2 x4) ∧
(∀ x16 : Int,
((Rng .i64 x16) →
(∀ x17 : Int,
((Rng .i64 x17) →
((q_Balance x0 s1 s2 x4 x16 x17) →
(p_Total x0 s1 s2 x6) ∧
(∀ x18 : Int,
((Rng .i64 x18) →
(∀ x19 : Int,
((Rng .i64 x19) →
((q_Total x0 s1 s2 x6 x18 x19) →
(p_At x0 s1 s2 x5) ∧
(∀ x20 : Int,
((Rng .i64 x20) →
(∀ s21 : Sl,
(∀ s22 : Sl,
(∀ x23 : Int,
((Rng .i64 x23) →
((q_At x0 s1 s2 x5 x20 s21 s22 x23) →
(p_Valid x0 s1 s2) ∧
(∀ b24 : Bool,
((q_Valid x0 s1 s2 (decide (b24 = true))) →
(((¬ ((b24 = true) ↔ (b11 = true))) →
(q_Tells x0 s1 s2 x3 x4 x5 x6 (decide False)) ∧ True) ∧
(¬ (¬ ((b24 = true) ↔ (b11 = true))) →
(((¬ (b11 = true)) →
(((x13 = 2) →
(((x15 = x13) →
(((x17 = x13) →
(((x19 = x13) →
(((x23 = x13) →
(((x12 = 0) →
(((x14 = 0) →
(((x16 = 0) →
(((x18 = 0) →
(p_Same x20 s21 s22 0 Sl.nil Sl.nil) ∧
(∀ b25 : Bool,
((q_Same x20 s21 s22 0 Sl.nil Sl.nil (decide (b25 = true))) →
(((b25 = true) →
(p_awake ) ∧
(∀ b26 : Bool,
((q_awake  (decide (b26 = true))) →
(q_Tells x0 s1 s2 x3 x4 x5 x6 (decide (b26 = true))) ∧ True))) ∧
(¬ (b25 = true) →
(q_Tells x0 s1 s2 x3 x4 x5 x6 (decide False)) ∧ True))))) ∧
(¬ (x18 = 0) →
(q_Tells x0 s1 s2 x3 x4 x5 x6 (decide False)) ∧ True))) ∧
(¬ (x16 = 0) →
(q_Tells x0 s1 s2 x3 x4 x5 x6 (decide False)) ∧ True))) ∧
(¬ (x14 = 0) →
(q_Tells x0 s1 s2 x3 x4 x5 x6 (decide False)) ∧ True))) ∧
(¬ (x12 = 0) →
(q_Tells x0 s1 s2 x3 x4 x5 x6 (decide False)) ∧ True))) ∧
(¬ (x23 = x13) →
(q_Tells x0 s1 s2 x3 x4 x5 x6 (decide False)) ∧ True))) ∧
(¬ (x19 = x13) →
(q_Tells x0 s1 s2 x3 x4 x5 x6 (decide False)) ∧ True))) ∧
(¬ (x17 = x13) →
(q_Tells x0 s1 s2 x3 x4 x5 x6 (decide False)) ∧ True))) ∧
(¬ (x15 = x13) →
(q_Tells x0 s1 s2 x3 x4 x5 x6 (decide False)) ∧ True))) ∧
(¬ (x13 = 2) →
(q_Tells x0 s1 s2 x3 x4 x5 x6 (decide False)) ∧ True))) ∧
(¬ (¬ (b11 = true)) →
(p_rHas x0 s9 s10 x3) ∧
(∀ b25 : Bool,
((q_rHas x0 s9 s10 x3 (decide (b25 = true))) →
(((¬ (b25 = true)) →
(((x12 ≠ 0) →
(q_Tells x0 s1 s2 x3 x4 x5 x6 (decide False)) ∧ True) ∧
(¬ (x12 ≠ 0) →
(((x14 ≠ 0) →
(q_Tells x0 s1 s2 x3 x4 x5 x6 (decide False)) ∧ True) ∧
(¬ (x14 ≠ 0) →
(((x13 ≠ 6) →
(q_Tells x0 s1 s2 x3 x4 x5 x6 (decide False)) ∧ True) ∧
(¬ (x13 ≠ 6) →
(((x15 ≠ x13) →
(q_Tells x0 s1 s2 x3 x4 x5 x6 (decide False)) ∧ True) ∧
(¬ (x15 ≠ x13) →
(V_Tells_2 x0 s1 s2 x3 x4 x5 x6 x8 s9 s10 x16 x17 x18 x19 x20 s21 s22 x23)))))))))) ∧
(¬ (¬ (b25 = true)) →
(((x13 ≠ 0) →
(q_Tells x0 s1 s2 x3 x4 x5 x6 (decide False)) ∧ True) ∧
(¬ (x13 ≠ 0) →
(((x15 ≠ 0) →
(q_Tells x0 s1 s2 x3 x4 x5 x6 (decide False)) ∧ True) ∧
(¬ (x15 ≠ 0) →
(p_rPosted x0 s9 s10 x3) ∧
(∀ x26 : Int,
((Rng .i64 x26) →
((q_rPosted x0 s9 s10 x3 x26) →
(((x12 ≠ x26) →
(q_Tells x0 s1 s2 x3 x4 x5 x6 (decide False)) ∧ True) ∧
(¬ (x12 ≠ x26) →
(Rng .i64 (x3 - x0)) ∧
((0 : Int) ≤ (x3 - x0)) ∧
((x3 - x0) < (Sl.len s9)) ∧
((Rng .i64 (Sl.int s9 (x3 - x0) 0)) →
(Rng .i64 ((Sl.int s9 (x3 - x0) 0) - x12)) ∧
(((x14 ≠ ((Sl.int s9 (x3 - x0) 0) - x12)) →
(q_Tells x0 s1 s2 x3 x4 x5 x6 (decide False)) ∧ True) ∧
(¬ (x14 ≠ ((Sl.int s9 (x3 - x0) 0) - x12)) →
(V_Tells_2 x0 s1 s2 x3 x4 x5 x6 x8 s9 s10 x16 x17 x18 x19 x20 s21 s22 x23))))))))))))))))))))))))))))))))))))))))))))))))))))))))))))))))))))))))))
theorem j_Tells : (vc (A := sem Tb) (cfgAt [29, 47, 28, 26, 27, 25, 20, 44, 51, 24, 19, 12, 32, 11, 18, 14, 23, 13, 22, 17, 16, 21, 38, 15, 36, 37]) 6 5 ⟨[.agg [(.int .i64, false), (.sl 3, false), (.sl 47, false)], .cell (.int .i64) false, .cell (.int .i64) false, .cell (.int .i64) false, .cell (.int .u8) false], [.cell (.bool) false]⟩).den = V_Tells := by kernel_rfl
theorem l_Tells (h : SigOk Tb (cfgAt [29, 47, 28, 26, 27, 25, 20, 44, 51, 24, 19, 12, 32, 11, 18, 14, 23, 13, 22, 17, 16, 21, 38, 15, 36, 37])) (hv : V_Tells) : ConOK Try.prog 5 ⟨[.agg [(.int .i64, false), (.sl 3, false), (.sl 47, false)], .cell (.int .i64) false, .cell (.int .i64) false, .cell (.int .i64) false, .cell (.int .u8) false], [.cell (.bool) false]⟩ (Tb 5) := SigOk.law (l := [29, 47, 28, 26, 27, 25, 20, 44, 51, 24, 19, 12, 32, 11, 18, 14, 23, 13, 22, 17, 16, 21, 38, 15, 36, 37]) h j_Tells hv
end Go.Sx.L
