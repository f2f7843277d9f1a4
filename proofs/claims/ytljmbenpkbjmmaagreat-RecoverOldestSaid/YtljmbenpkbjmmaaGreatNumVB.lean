/-
  The conditions of the functions. Conditions: none; printed by a program of our own.
-/
import Derived.Test.YtljmbenpkbjmmaaGreatNumBase
set_option maxRecDepth 20000
namespace Go.Sx.N
def V_plus : Prop :=
(∀ s0 : Sl,
((Ranged s0 [some .u32]) →
(∀ s1 : Sl,
((Ranged s1 [some .u32]) →
((p_plus s0 s1) →
(∃ J2 : Sl → Sl → Prop,
((((Small s0) →
((Small s1) →
((((Sl.len s0) < (Sl.len s1)) → J2 s1 s0) ∧
(¬ ((Sl.len s0) < (Sl.len s1)) → J2 s0 s1))))) ∧
((∀ s3 : Sl,
((Ranged s3 [some .u32]) →
(∀ s4 : Sl,
((Ranged s4 [some .u32]) →
(J2 s3 s4 →
((Small s3) →
(Rng .i64 ((Sl.len s3) + 1)) ∧
((0 : Int) ≤ 0) ∧
((0 : Int) ≤ ((Sl.len s3) + 1)) ∧
((((Sl.len s3) + 1) * 4) ≤ 140737488355328) ∧
((Small s3) →
(∃ (J5 : Int → Sl → Int → Prop) (M5 : Int → Sl → Int → Nat), J5 0 (Sl.rep 0 [(.int 0)]) 0 ∧
(∀ x6 : Int,
((Rng .i64 x6) →
(∀ s7 : Sl,
((Ranged s7 [some .u32]) →
(∀ x8 : Int,
((Rng .u64 x8) →
(J5 x6 s7 x8 →
(((x6 < (Sl.len s3)) →
((0 : Int) ≤ x6) ∧
(x6 < (Sl.len s3)) ∧
((Rng .u32 (Sl.int s3 x6 0)) →
(∃ J9 : Int → Prop,
((((Small s4) →
(((x6 < (Sl.len s4)) →
((0 : Int) ≤ x6) ∧
(x6 < (Sl.len s4)) ∧
((Rng .u32 (Sl.int s4 x6 0)) → J9 (IntKind.wrap .u64 ((Sl.int s3 x6 0) + (Sl.int s4 x6 0))))) ∧
(¬ (x6 < (Sl.len s4)) → J9 (Sl.int s3 x6 0))))) ∧
((∀ x10 : Int,
((Rng .u64 x10) →
(J9 x10 →
((((((Sl.len s7) + (Sl.len (Sl.lit [[(.int (IntKind.wrap .u32 (IntKind.wrap .u64 (x10 + x8))))]]))) * 4) ≤ 140737488355328) ∧
((0 : Int) ≤ 32) ∧
(Rng .u64 (shr .u64 (IntKind.wrap .u64 (x10 + x8)) 32)) ∧
(Rng .i64 (x6 + 1)) ∧
(J5 (x6 + 1) (Sl.app s7 (Sl.lit [[(.int (IntKind.wrap .u32 (IntKind.wrap .u64 (x10 + x8))))]])) (shr .u64 (IntKind.wrap .u64 (x10 + x8)) 32) ∧ M5 (x6 + 1) (Sl.app s7 (Sl.lit [[(.int (IntKind.wrap .u32 (IntKind.wrap .u64 (x10 + x8))))]])) (shr .u64 (IntKind.wrap .u64 (x10 + x8)) 32) < M5 x6 s7 x8)) ∧
(((((Sl.len s7) + (Sl.len (Sl.lit [[(.int (IntKind.wrap .u32 (IntKind.wrap .u64 (x10 + x8))))]]))) * 4) ≤ 140737488355328) ∧
((0 : Int) ≤ 32) ∧
(Rng .u64 (shr .u64 (IntKind.wrap .u64 (x10 + x8)) 32)) ∧
(Rng .i64 (x6 + 1)) ∧
(J5 (x6 + 1) (Sl.app s7 (Sl.lit [[(.int (IntKind.wrap .u32 (IntKind.wrap .u64 (x10 + x8))))]])) (shr .u64 (IntKind.wrap .u64 (x10 + x8)) 32) ∧ M5 (x6 + 1) (Sl.app s7 (Sl.lit [[(.int (IntKind.wrap .u32 (IntKind.wrap .u64 (x10 + x8))))]])) (shr .u64 (IntKind.wrap .u64 (x10 + x8)) 32) < M5 x6 s7 x8))))))))))) ∧
(¬ (x6 < (Sl.len s3)) →
((((((Sl.len s7) + (Sl.len (Sl.lit [[(.int (IntKind.wrap .u32 (IntKind.wrap .u64 (0 + x8))))]]))) * 4) ≤ 140737488355328) ∧
((0 : Int) ≤ 32) ∧
(Rng .u64 (shr .u64 (IntKind.wrap .u64 (0 + x8)) 32)) ∧
(p_trim (Sl.app s7 (Sl.lit [[(.int (IntKind.wrap .u32 (IntKind.wrap .u64 (0 + x8))))]]))) ∧
(∀ s9 : Sl,
((Ranged s9 [some .u32]) →
((q_trim (Sl.app s7 (Sl.lit [[(.int (IntKind.wrap .u32 (IntKind.wrap .u64 (0 + x8))))]])) s9) →
(q_plus s0 s1 s9) ∧ True)))) ∧
(((((Sl.len s7) + (Sl.len (Sl.lit [[(.int (IntKind.wrap .u32 (IntKind.wrap .u64 (0 + x8))))]]))) * 4) ≤ 140737488355328) ∧
((0 : Int) ≤ 32) ∧
(Rng .u64 (shr .u64 (IntKind.wrap .u64 (0 + x8)) 32)) ∧
(p_trim (Sl.app s7 (Sl.lit [[(.int (IntKind.wrap .u32 (IntKind.wrap .u64 (0 + x8))))]]))) ∧
(∀ s9 : Sl,
((Ranged s9 [some .u32]) →
((q_trim (Sl.app s7 (Sl.lit [[(.int (IntKind.wrap .u32 (IntKind.wrap .u64 (0 + x8))))]])) s9) →
(q_plus s0 s1 s9) ∧ True))))))))))))))))))))))))))))))
def V_minus : Prop :=
(∀ s0 : Sl,
((Ranged s0 [some .u32]) →
(∀ s1 : Sl,
((Ranged s1 [some .u32]) →
((p_minus s0 s1) →
(p_Clone32 s0) ∧
(∀ s2 : Sl,
((Ranged s2 [some .u32]) →
((q_Clone32 s0 s2) →
((Small s2) →
(∃ (J3 : Int → Int → Sl → Prop) (M3 : Int → Int → Sl → Nat), J3 0 0 s2 ∧
(∀ x4 : Int,
((Rng .u32 x4) →
(∀ x5 : Int,
((Rng .i64 x5) →
(∀ s6 : Sl,
((Ranged s6 [some .u32]) →
(J3 x4 x5 s6 →
(((x5 < (Sl.len s2)) →
(∃ J7 : Int → Prop,
((((Small s1) →
(((x5 < (Sl.len s1)) →
((0 : Int) ≤ x5) ∧
(x5 < (Sl.len s1)) ∧
((Rng .u32 (Sl.int s1 x5 0)) → J7 (Sl.int s1 x5 0))) ∧
(¬ (x5 < (Sl.len s1)) → J7 0)))) ∧
((∀ x8 : Int,
((Rng .u32 x8) →
(J7 x8 →
((0 : Int) ≤ x5) ∧
(x5 < (Sl.len s6)) ∧
((Rng .u32 (Sl.int s6 x5 0)) →
(p_Sub32 (Sl.int s6 x5 0) x8 x4) ∧
(∀ x9 : Int,
((Rng .u32 x9) →
(∀ x10 : Int,
((Rng .u32 x10) →
((q_Sub32 (Sl.int s6 x5 0) x8 x4 x9 x10) →
((0 : Int) ≤ x5) ∧
(x5 < (Sl.len s6)) ∧
(Rng .i64 (x5 + 1)) ∧
(J3 x10 (x5 + 1) (Sl.upd s6 x5 0 [(.int x9)]) ∧ M3 x10 (x5 + 1) (Sl.upd s6 x5 0 [(.int x9)]) < M3 x4 x5 s6)))))))))))))) ∧
(¬ (x5 < (Sl.len s2)) →
(p_trim s6) ∧
(∀ s7 : Sl,
((Ranged s7 [some .u32]) →
((q_trim s6 s7) →
(q_minus s0 s1 s7) ∧ True))))))))))))))))))))))
def V_times : Prop :=
(∀ s0 : Sl,
((Ranged s0 [some .u32]) →
(∀ s1 : Sl,
((Ranged s1 [some .u32]) →
((p_times s0 s1) →
((Small s0) →
((Small s1) →
(Rng .i64 ((Sl.len s0) + (Sl.len s1))) ∧
((0 : Int) ≤ ((Sl.len s0) + (Sl.len s1))) ∧
(((Sl.len s0) + (Sl.len s1)) ≤ ((Sl.len s0) + (Sl.len s1))) ∧
((((Sl.len s0) + (Sl.len s1)) * 4) ≤ 140737488355328) ∧
((Small s0) →
(∃ (J2 : Int → Sl → Prop) (M2 : Int → Sl → Nat), J2 0 (Sl.rep ((Sl.len s0) + (Sl.len s1)) [(.int 0)]) ∧
(∀ x3 : Int,
((Rng .i64 x3) →
(∀ s4 : Sl,
((Ranged s4 [some .u32]) →
(J2 x3 s4 →
(((x3 < (Sl.len s0)) →
((0 : Int) ≤ x3) ∧
(x3 < (Sl.len s0)) ∧
((Rng .u32 (Sl.int s0 x3 0)) →
((Small s1) →
(∃ (J5 : Int → Int → Sl → Prop) (M5 : Int → Int → Sl → Nat), J5 0 0 s4 ∧
(∀ x6 : Int,
((Rng .u64 x6) →
(∀ x7 : Int,
((Rng .i64 x7) →
(∀ s8 : Sl,
((Ranged s8 [some .u32]) →
(J5 x6 x7 s8 →
(((x7 < (Sl.len s1)) →
((0 : Int) ≤ x7) ∧
(x7 < (Sl.len s1)) ∧
((Rng .u32 (Sl.int s1 x7 0)) →
(Rng .i64 (x3 + x7)) ∧
((0 : Int) ≤ (x3 + x7)) ∧
((x3 + x7) < (Sl.len s8)) ∧
((Rng .u32 (Sl.int s8 (x3 + x7) 0)) →
(Rng .i64 (x3 + x7)) ∧
((0 : Int) ≤ (x3 + x7)) ∧
((x3 + x7) < (Sl.len s8)) ∧
((0 : Int) ≤ 32) ∧
(Rng .u64 (shr .u64 (IntKind.wrap .u64 ((IntKind.wrap .u64 ((IntKind.wrap .u64 ((Sl.int s0 x3 0) * (Sl.int s1 x7 0))) + (Sl.int s8 (x3 + x7) 0))) + x6)) 32)) ∧
(Rng .i64 (x7 + 1)) ∧
(J5 (shr .u64 (IntKind.wrap .u64 ((IntKind.wrap .u64 ((IntKind.wrap .u64 ((Sl.int s0 x3 0) * (Sl.int s1 x7 0))) + (Sl.int s8 (x3 + x7) 0))) + x6)) 32) (x7 + 1) (Sl.upd s8 (x3 + x7) 0 [(.int (IntKind.wrap .u32 (IntKind.wrap .u64 ((IntKind.wrap .u64 ((IntKind.wrap .u64 ((Sl.int s0 x3 0) * (Sl.int s1 x7 0))) + (Sl.int s8 (x3 + x7) 0))) + x6))))]) ∧ M5 (shr .u64 (IntKind.wrap .u64 ((IntKind.wrap .u64 ((IntKind.wrap .u64 ((Sl.int s0 x3 0) * (Sl.int s1 x7 0))) + (Sl.int s8 (x3 + x7) 0))) + x6)) 32) (x7 + 1) (Sl.upd s8 (x3 + x7) 0 [(.int (IntKind.wrap .u32 (IntKind.wrap .u64 ((IntKind.wrap .u64 ((IntKind.wrap .u64 ((Sl.int s0 x3 0) * (Sl.int s1 x7 0))) + (Sl.int s8 (x3 + x7) 0))) + x6))))]) < M5 x6 x7 s8)))) ∧
(¬ (x7 < (Sl.len s1)) →
((Small s1) →
(Rng .i64 (x3 + (Sl.len s1))) ∧
((0 : Int) ≤ (x3 + (Sl.len s1))) ∧
((x3 + (Sl.len s1)) < (Sl.len s8)) ∧
(Rng .i64 (x3 + 1)) ∧
(J2 (x3 + 1) (Sl.upd s8 (x3 + (Sl.len s1)) 0 [(.int (IntKind.wrap .u32 x6))]) ∧ M2 (x3 + 1) (Sl.upd s8 (x3 + (Sl.len s1)) 0 [(.int (IntKind.wrap .u32 x6))]) < M2 x3 s4))))))))))))))) ∧
(¬ (x3 < (Sl.len s0)) →
(p_trim s4) ∧
(∀ s5 : Sl,
((Ranged s5 [some .u32]) →
((q_trim s4 s5) →
(q_times s0 s1 s5) ∧ True)))))))))))))))))))
def V_Clone16 : Prop :=
(∀ s0 : Sl,
((Ranged s0 [some .u16]) →
((p_Clone16 s0) →
(∀ b1 : Bool,
(((b1 = true) →
(((Sl.len s0) ≤ 0) →
(q_Clone16 s0 Sl.nil) ∧ True)) ∧
(¬ (b1 = true) →
((((Sl.len (Sl.lit [])) + (Sl.len s0)) * 2) ≤ 140737488355328) ∧
(q_Clone16 s0 (Sl.app (Sl.lit []) s0)) ∧ True))))))
def V_Equal16 : Prop :=
(∀ s0 : Sl,
((Ranged s0 [some .u16]) →
(∀ s1 : Sl,
((Ranged s1 [some .u16]) →
((p_Equal16 s0 s1) →
((Small s0) →
((Small s1) →
((((Sl.len s0) ≠ (Sl.len s1)) →
(q_Equal16 s0 s1 (decide False)) ∧ True) ∧
(¬ ((Sl.len s0) ≠ (Sl.len s1)) →
((Small s0) →
(∃ (J2 : Int → Prop) (M2 : Int → Nat), J2 0 ∧
(∀ x3 : Int,
((Rng .i64 x3) →
(J2 x3 →
(((x3 < (Sl.len s0)) →
((0 : Int) ≤ x3) ∧
(x3 < (Sl.len s0)) ∧
((Rng .u16 (Sl.int s0 x3 0)) →
((0 : Int) ≤ x3) ∧
(x3 < (Sl.len s1)) ∧
((Rng .u16 (Sl.int s1 x3 0)) →
((((Sl.int s0 x3 0) ≠ (Sl.int s1 x3 0)) →
(q_Equal16 s0 s1 (decide False)) ∧ True) ∧
(¬ ((Sl.int s0 x3 0) ≠ (Sl.int s1 x3 0)) →
(Rng .i64 (x3 + 1)) ∧
(J2 (x3 + 1) ∧ M2 (x3 + 1) < M2 x3)))))) ∧
(¬ (x3 < (Sl.len s0)) →
(q_Equal16 s0 s1 (decide True)) ∧ True))))))))))))))))
def V_wValid : Prop :=
(∀ b0 : Bool,
(∀ s1 : Sl,
((Ranged s1 [some .u16]) →
((p_wValid (decide (b0 = true)) s1) →
((Small s1) →
((((Sl.len s1) = 0) →
(q_wValid (decide (b0 = true)) s1 (decide (¬ (b0 = true)))) ∧ True) ∧
(¬ ((Sl.len s1) = 0) →
((((Sl.len s1) ≤ 1024) →
(Rng .i64 ((Sl.len s1) - 1)) ∧
((0 : Int) ≤ ((Sl.len s1) - 1)) ∧
(((Sl.len s1) - 1) < (Sl.len s1)) ∧
((Rng .u16 (Sl.int s1 ((Sl.len s1) - 1) 0)) →
(q_wValid (decide (b0 = true)) s1 (decide ((Sl.int s1 ((Sl.len s1) - 1) 0) ≠ 0))) ∧ True)) ∧
(¬ ((Sl.len s1) ≤ 1024) →
(q_wValid (decide (b0 = true)) s1 (decide False)) ∧ True)))))))))
def V_wAllValid : Prop :=
(∀ s0 : Sl,
((Ranged s0 [none, none]) →
((p_wAllValid s0) →
((Small s0) →
(∃ (J1 : Int → Prop) (M1 : Int → Nat), J1 0 ∧
(∀ x2 : Int,
((Rng .i64 x2) →
(J1 x2 →
(((x2 < (Sl.len s0)) →
((0 : Int) ≤ x2) ∧
(x2 < (Sl.len s0)) ∧
((Ranged (Sl.sub s0 x2 1) [some .u16]) →
(p_wValid (decide (Sl.bool s0 x2 0 = true)) (Sl.sub s0 x2 1)) ∧
(∀ b3 : Bool,
((q_wValid (decide (Sl.bool s0 x2 0 = true)) (Sl.sub s0 x2 1) (decide (b3 = true))) →
(((¬ (b3 = true)) →
(q_wAllValid s0 (decide False)) ∧ True) ∧
(¬ (¬ (b3 = true)) →
(Rng .i64 (x2 + 1)) ∧
(J1 (x2 + 1) ∧ M1 (x2 + 1) < M1 x2))))))) ∧
(¬ (x2 < (Sl.len s0)) →
(q_wAllValid s0 (decide True)) ∧ True))))))))))
def V_wSame : Prop :=
(∀ b0 : Bool,
(∀ s1 : Sl,
((Ranged s1 [some .u16]) →
(∀ b2 : Bool,
(∀ s3 : Sl,
((Ranged s3 [some .u16]) →
((p_wSame (decide (b0 = true)) s1 (decide (b2 = true)) s3) →
((((b0 = true) ↔ (b2 = true)) →
(p_Equal16 s1 s3) ∧
(∀ b4 : Bool,
((q_Equal16 s1 s3 (decide (b4 = true))) →
(q_wSame (decide (b0 = true)) s1 (decide (b2 = true)) s3 (decide (b4 = true))) ∧ True))) ∧
(¬ ((b0 = true) ↔ (b2 = true)) →
(q_wSame (decide (b0 = true)) s1 (decide (b2 = true)) s3 (decide False)) ∧ True)))))))))
def V_wFromInt : Prop :=
(∀ x0 : Int,
((Rng .i64 x0) →
((p_wFromInt x0) →
(∃ J1 : Int → Prop,
(((((x0 < 0) → J1 (IntKind.wrap .u64 (0 - (IntKind.wrap .u64 x0)))) ∧
(¬ (x0 < 0) → J1 (IntKind.wrap .u64 x0)))) ∧
((∀ x2 : Int,
((Rng .u64 x2) →
(J1 x2 →
(∃ (J3 : Int → Int → Int → Int → Int → Int → Prop) (M3 : Int → Int → Int → Int → Int → Int → Nat), J3 0 0 0 0 0 0 ∧
(∀ x4 : Int,
((Rng .i64 x4) →
(∀ x5 : Int,
((Rng .i64 x5) →
(∀ x6 : Int,
((Rng .u16 x6) →
(∀ x7 : Int,
((Rng .u16 x7) →
(∀ x8 : Int,
((Rng .u16 x8) →
(∀ x9 : Int,
((Rng .u16 x9) →
(J3 x4 x5 x6 x7 x8 x9 →
(((x5 < 4) →
(∃ J10 : Int → Int → Int → Int → Int → Prop,
(((∃ J11 : Int → Int → Int → Int → Prop,
(((Rng .i64 (16 * x5)) ∧
((0 : Int) ≤ (16 * x5)) ∧
(Rng .u64 (shr .u64 x2 (16 * x5))) ∧
((0 : Int) ≤ x5) ∧
(x5 < 4) ∧
(((x5 = 0) → J11 (IntKind.wrap .u16 (shr .u64 x2 (16 * x5))) x7 x8 x9) ∧
(¬ (x5 = 0) →
(((x5 = 1) → J11 x6 (IntKind.wrap .u16 (shr .u64 x2 (16 * x5))) x8 x9) ∧
(¬ (x5 = 1) →
(((x5 = 2) → J11 x6 x7 (IntKind.wrap .u16 (shr .u64 x2 (16 * x5))) x9) ∧
(¬ (x5 = 2) → J11 x6 x7 x8 (IntKind.wrap .u16 (shr .u64 x2 (16 * x5)))))))))) ∧
((∀ x12 : Int,
((Rng .u16 x12) →
(∀ x13 : Int,
((Rng .u16 x13) →
(∀ x14 : Int,
((Rng .u16 x14) →
(∀ x15 : Int,
((Rng .u16 x15) →
(J11 x12 x13 x14 x15 →
((0 : Int) ≤ x5) ∧
(x5 < 4) ∧
(((x5 = 0) →
(((x12 ≠ 0) →
(Rng .i64 (x5 + 1)) ∧ J10 (x5 + 1) x12 x13 x14 x15) ∧
(¬ (x12 ≠ 0) → J10 x4 x12 x13 x14 x15))) ∧
(¬ (x5 = 0) →
(((x5 = 1) →
(((x13 ≠ 0) →
(Rng .i64 (x5 + 1)) ∧ J10 (x5 + 1) x12 x13 x14 x15) ∧
(¬ (x13 ≠ 0) → J10 x4 x12 x13 x14 x15))) ∧
(¬ (x5 = 1) →
(((x5 = 2) →
(((x14 ≠ 0) →
(Rng .i64 (x5 + 1)) ∧ J10 (x5 + 1) x12 x13 x14 x15) ∧
(¬ (x14 ≠ 0) → J10 x4 x12 x13 x14 x15))) ∧
(¬ (x5 = 2) →
(((x15 ≠ 0) →
(Rng .i64 (x5 + 1)) ∧ J10 (x5 + 1) x12 x13 x14 x15) ∧
(¬ (x15 ≠ 0) → J10 x4 x12 x13 x14 x15))))))))))))))))))))) ∧
((∀ x11 : Int,
((Rng .i64 x11) →
(∀ x12 : Int,
((Rng .u16 x12) →
(∀ x13 : Int,
((Rng .u16 x13) →
(∀ x14 : Int,
((Rng .u16 x14) →
(∀ x15 : Int,
((Rng .u16 x15) →
(J10 x11 x12 x13 x14 x15 →
(Rng .i64 (x5 + 1)) ∧
(J3 x11 (x5 + 1) x12 x13 x14 x15 ∧ M3 x11 (x5 + 1) x12 x13 x14 x15 < M3 x4 x5 x6 x7 x8 x9)))))))))))))))) ∧
(¬ (x5 < 4) →
((0 : Int) ≤ 0) ∧
((0 : Int) ≤ x4) ∧
(x4 ≤ 4) ∧
(p_Clone16 (Sl.part (Sl.lit [[(.int x6)], [(.int x7)], [(.int x8)], [(.int x9)]]) 0 x4)) ∧
(∀ s10 : Sl,
((Ranged s10 [some .u16]) →
((q_Clone16 (Sl.part (Sl.lit [[(.int x6)], [(.int x7)], [(.int x8)], [(.int x9)]]) 0 x4) s10) →
(q_wFromInt x0 (decide (x0 < 0)) s10) ∧ True))))))))))))))))))))))))))))
def V_wInt : Prop :=
(∀ b0 : Bool,
(∀ s1 : Sl,
((Ranged s1 [some .u16]) →
((p_wInt (decide (b0 = true)) s1) →
(p_wValid (decide (b0 = true)) s1) ∧
(∀ b2 : Bool,
((q_wValid (decide (b0 = true)) s1 (decide (b2 = true))) →
(((¬ (b2 = true)) →
(q_wInt (decide (b0 = true)) s1 0 2) ∧ True) ∧
(¬ (¬ (b2 = true)) →
((Small s1) →
((((Sl.len s1) > 4) →
(q_wInt (decide (b0 = true)) s1 0 3) ∧ True) ∧
(¬ ((Sl.len s1) > 4) →
((Small s1) →
(Rng .i64 ((Sl.len s1) - 1)) ∧
(∃ (J3 : Int → Int → Prop) (M3 : Int → Int → Nat), J3 ((Sl.len s1) - 1) 0 ∧
(∀ x4 : Int,
((Rng .i64 x4) →
(∀ x5 : Int,
((Rng .u64 x5) →
(J3 x4 x5 →
(((x4 ≥ 0) →
((0 : Int) ≤ x4) ∧
(x4 < (Sl.len s1)) ∧
((Rng .u16 (Sl.int s1 x4 0)) →
((0 : Int) ≤ 16) ∧
(Rng .i64 (x4 - 1)) ∧
(J3 (x4 - 1) (IntKind.wrap .u64 (bor .u64 (IntKind.wrap .u64 (shl .u64 x5 16)) (Sl.int s1 x4 0))) ∧ M3 (x4 - 1) (IntKind.wrap .u64 (bor .u64 (IntKind.wrap .u64 (shl .u64 x5 16)) (Sl.int s1 x4 0))) < M3 x4 x5))) ∧
(¬ (x4 ≥ 0) →
(((b0 = true) →
(((x5 > 9223372036854775808) →
(q_wInt (decide (b0 = true)) s1 0 3) ∧ True) ∧
(¬ (x5 > 9223372036854775808) →
(q_wInt (decide (b0 = true)) s1 (IntKind.wrap .i64 (IntKind.wrap .u64 (0 - x5))) 0) ∧ True))) ∧
(¬ (b0 = true) →
(((x5 ≥ 9223372036854775808) →
(q_wInt (decide (b0 = true)) s1 0 3) ∧ True) ∧
(¬ (x5 ≥ 9223372036854775808) →
(q_wInt (decide (b0 = true)) s1 (IntKind.wrap .i64 x5) 0) ∧ True))))))))))))))))))))))))
def V_result : Prop :=
(∀ b0 : Bool,
(∀ s1 : Sl,
((Ranged s1 [some .u32]) →
((p_result (decide (b0 = true)) s1) →
(p_unpack (decide (b0 = true)) s1) ∧
(∀ b2 : Bool,
(∀ s3 : Sl,
((Ranged s3 [some .u16]) →
((q_unpack (decide (b0 = true)) s1 (decide (b2 = true)) s3) →
((Small s3) →
((((Sl.len s3) > 1024) →
(q_result (decide (b0 = true)) s1 (decide False) Sl.nil 3) ∧ True) ∧
(¬ ((Sl.len s3) > 1024) →
(q_result (decide (b0 = true)) s1 (decide (b2 = true)) s3 0) ∧ True)))))))))))
def V_sum : Prop :=
(∀ b0 : Bool,
(∀ s1 : Sl,
((Ranged s1 [some .u32]) →
(∀ b2 : Bool,
(∀ s3 : Sl,
((Ranged s3 [some .u32]) →
((p_sum (decide (b0 = true)) s1 (decide (b2 = true)) s3) →
((((b0 = true) ↔ (b2 = true)) →
(p_plus s1 s3) ∧
(∀ s4 : Sl,
((Ranged s4 [some .u32]) →
((q_plus s1 s3 s4) →
(p_result (decide (b0 = true)) s4) ∧
(∀ b5 : Bool,
(∀ s6 : Sl,
((Ranged s6 [some .u16]) →
(∀ x7 : Int,
((Rng .i64 x7) →
((q_result (decide (b0 = true)) s4 (decide (b5 = true)) s6 x7) →
(q_sum (decide (b0 = true)) s1 (decide (b2 = true)) s3 (decide (b5 = true)) s6 x7) ∧ True)))))))))) ∧
(¬ ((b0 = true) ↔ (b2 = true)) →
(p_compare s1 s3) ∧
(∀ x4 : Int,
((Rng .i64 x4) →
((q_compare s1 s3 x4) →
(((x4 ≥ 0) →
(p_minus s1 s3) ∧
(∀ s5 : Sl,
((Ranged s5 [some .u32]) →
((q_minus s1 s3 s5) →
(p_result (decide (b0 = true)) s5) ∧
(∀ b6 : Bool,
(∀ s7 : Sl,
((Ranged s7 [some .u16]) →
(∀ x8 : Int,
((Rng .i64 x8) →
((q_result (decide (b0 = true)) s5 (decide (b6 = true)) s7 x8) →
(q_sum (decide (b0 = true)) s1 (decide (b2 = true)) s3 (decide (b6 = true)) s7 x8) ∧ True)))))))))) ∧
(¬ (x4 ≥ 0) →
(p_minus s3 s1) ∧
(∀ s5 : Sl,
((Ranged s5 [some .u32]) →
((q_minus s3 s1 s5) →
(p_result (decide (b2 = true)) s5) ∧
(∀ b6 : Bool,
(∀ s7 : Sl,
((Ranged s7 [some .u16]) →
(∀ x8 : Int,
((Rng .i64 x8) →
((q_result (decide (b2 = true)) s5 (decide (b6 = true)) s7 x8) →
(q_sum (decide (b0 = true)) s1 (decide (b2 = true)) s3 (decide (b6 = true)) s7 x8) ∧ True)))))))))))))))))))))))
def V_wAdd : Prop :=
(∀ b0 : Bool,
(∀ s1 : Sl,
((Ranged s1 [some .u16]) →
(∀ b2 : Bool,
(∀ s3 : Sl,
((Ranged s3 [some .u16]) →
((p_wAdd (decide (b0 = true)) s1 (decide (b2 = true)) s3) →
(p_wAllValid (Sl.lit [[(.bool (decide (b0 = true))), (Sl.d s1)], [(.bool (decide (b2 = true))), (Sl.d s3)]])) ∧
(∀ b4 : Bool,
((q_wAllValid (Sl.lit [[(.bool (decide (b0 = true))), (Sl.d s1)], [(.bool (decide (b2 = true))), (Sl.d s3)]]) (decide (b4 = true))) →
(((¬ (b4 = true)) →
(q_wAdd (decide (b0 = true)) s1 (decide (b2 = true)) s3 (decide False) Sl.nil 2) ∧ True) ∧
(¬ (¬ (b4 = true)) →
(p_pack s1) ∧
(∀ s5 : Sl,
((Ranged s5 [some .u32]) →
((q_pack s1 s5) →
(p_pack s3) ∧
(∀ s6 : Sl,
((Ranged s6 [some .u32]) →
((q_pack s3 s6) →
(p_sum (decide (b0 = true)) s5 (decide (b2 = true)) s6) ∧
(∀ b7 : Bool,
(∀ s8 : Sl,
((Ranged s8 [some .u16]) →
(∀ x9 : Int,
((Rng .i64 x9) →
((q_sum (decide (b0 = true)) s5 (decide (b2 = true)) s6 (decide (b7 = true)) s8 x9) →
(q_wAdd (decide (b0 = true)) s1 (decide (b2 = true)) s3 (decide (b7 = true)) s8 x9) ∧ True)))))))))))))))))))))))
def V_wMul : Prop :=
(∀ b0 : Bool,
(∀ s1 : Sl,
((Ranged s1 [some .u16]) →
(∀ b2 : Bool,
(∀ s3 : Sl,
((Ranged s3 [some .u16]) →
((p_wMul (decide (b0 = true)) s1 (decide (b2 = true)) s3) →
(p_wAllValid (Sl.lit [[(.bool (decide (b0 = true))), (Sl.d s1)], [(.bool (decide (b2 = true))), (Sl.d s3)]])) ∧
(∀ b4 : Bool,
((q_wAllValid (Sl.lit [[(.bool (decide (b0 = true))), (Sl.d s1)], [(.bool (decide (b2 = true))), (Sl.d s3)]]) (decide (b4 = true))) →
(((¬ (b4 = true)) →
(q_wMul (decide (b0 = true)) s1 (decide (b2 = true)) s3 (decide False) Sl.nil 2) ∧ True) ∧
(¬ (¬ (b4 = true)) →
(p_pack s1) ∧
(∀ s5 : Sl,
((Ranged s5 [some .u32]) →
((q_pack s1 s5) →
(p_pack s3) ∧
(∀ s6 : Sl,
((Ranged s6 [some .u32]) →
((q_pack s3 s6) →
(p_times s5 s6) ∧
(∀ s7 : Sl,
((Ranged s7 [some .u32]) →
((q_times s5 s6 s7) →
(p_result (decide (¬ ((b0 = true) ↔ (b2 = true)))) s7) ∧
(∀ b8 : Bool,
(∀ s9 : Sl,
((Ranged s9 [some .u16]) →
(∀ x10 : Int,
((Rng .i64 x10) →
((q_result (decide (¬ ((b0 = true) ↔ (b2 = true)))) s7 (decide (b8 = true)) s9 x10) →
(q_wMul (decide (b0 = true)) s1 (decide (b2 = true)) s3 (decide (b8 = true)) s9 x10) ∧ True))))))))))))))))))))))))))
def V_wDivMod : Prop :=
(∀ b0 : Bool,
(∀ s1 : Sl,
((Ranged s1 [some .u16]) →
(∀ b2 : Bool,
(∀ s3 : Sl,
((Ranged s3 [some .u16]) →
((p_wDivMod (decide (b0 = true)) s1 (decide (b2 = true)) s3) →
(p_wAllValid (Sl.lit [[(.bool (decide (b0 = true))), (Sl.d s1)], [(.bool (decide (b2 = true))), (Sl.d s3)]])) ∧
(∀ b4 : Bool,
((q_wAllValid (Sl.lit [[(.bool (decide (b0 = true))), (Sl.d s1)], [(.bool (decide (b2 = true))), (Sl.d s3)]]) (decide (b4 = true))) →
(((¬ (b4 = true)) →
(q_wDivMod (decide (b0 = true)) s1 (decide (b2 = true)) s3 (decide False) Sl.nil (decide False) Sl.nil 2) ∧ True) ∧
(¬ (¬ (b4 = true)) →
((Small s3) →
((((Sl.len s3) = 0) →
(q_wDivMod (decide (b0 = true)) s1 (decide (b2 = true)) s3 (decide False) Sl.nil (decide False) Sl.nil 11) ∧ True) ∧
(¬ ((Sl.len s3) = 0) →
(p_pack s3) ∧
(∀ s5 : Sl,
((Ranged s5 [some .u32]) →
((q_pack s3 s5) →
(p_pack s1) ∧
(∀ s6 : Sl,
((Ranged s6 [some .u32]) →
((q_pack s1 s6) →
(p_divide s6 s5) ∧
(∀ s7 : Sl,
((Ranged s7 [some .u32]) →
(∀ s8 : Sl,
((Ranged s8 [some .u32]) →
((q_divide s6 s5 s7 s8) →
(((¬ ((b0 = true) ↔ (b2 = true))) →
((Small s8) →
((((Sl.len s8) > 0) →
(p_plus s7 (Sl.lit [[(.int 1)]])) ∧
(∀ s9 : Sl,
((Ranged s9 [some .u32]) →
((q_plus s7 (Sl.lit [[(.int 1)]]) s9) →
(p_minus s5 s8) ∧
(∀ s10 : Sl,
((Ranged s10 [some .u32]) →
((q_minus s5 s8 s10) →
(p_unpack (decide (¬ ((b0 = true) ↔ (b2 = true)))) s9) ∧
(∀ b11 : Bool,
(∀ s12 : Sl,
((Ranged s12 [some .u16]) →
((q_unpack (decide (¬ ((b0 = true) ↔ (b2 = true)))) s9 (decide (b11 = true)) s12) →
(p_unpack (decide (b2 = true)) s10) ∧
(∀ b13 : Bool,
(∀ s14 : Sl,
((Ranged s14 [some .u16]) →
((q_unpack (decide (b2 = true)) s10 (decide (b13 = true)) s14) →
(q_wDivMod (decide (b0 = true)) s1 (decide (b2 = true)) s3 (decide (b11 = true)) s12 (decide (b13 = true)) s14 0) ∧ True))))))))))))))) ∧
(¬ ((Sl.len s8) > 0) →
(p_unpack (decide (¬ ((b0 = true) ↔ (b2 = true)))) s7) ∧
(∀ b9 : Bool,
(∀ s10 : Sl,
((Ranged s10 [some .u16]) →
((q_unpack (decide (¬ ((b0 = true) ↔ (b2 = true)))) s7 (decide (b9 = true)) s10) →
(p_unpack (decide (b2 = true)) s8) ∧
(∀ b11 : Bool,
(∀ s12 : Sl,
((Ranged s12 [some .u16]) →
((q_unpack (decide (b2 = true)) s8 (decide (b11 = true)) s12) →
(q_wDivMod (decide (b0 = true)) s1 (decide (b2 = true)) s3 (decide (b9 = true)) s10 (decide (b11 = true)) s12 0) ∧ True)))))))))))) ∧
(¬ (¬ ((b0 = true) ↔ (b2 = true))) →
(p_unpack (decide (¬ ((b0 = true) ↔ (b2 = true)))) s7) ∧
(∀ b9 : Bool,
(∀ s10 : Sl,
((Ranged s10 [some .u16]) →
((q_unpack (decide (¬ ((b0 = true) ↔ (b2 = true)))) s7 (decide (b9 = true)) s10) →
(p_unpack (decide (b2 = true)) s8) ∧
(∀ b11 : Bool,
(∀ s12 : Sl,
((Ranged s12 [some .u16]) →
((q_unpack (decide (b2 = true)) s8 (decide (b11 = true)) s12) →
(q_wDivMod (decide (b0 = true)) s1 (decide (b2 = true)) s3 (decide (b9 = true)) s10 (decide (b11 = true)) s12 0) ∧ True)))))))))))))))))))))))))))))))))))
def V_wGcd : Prop :=
(∀ b0 : Bool,
(∀ s1 : Sl,
((Ranged s1 [some .u16]) →
(∀ b2 : Bool,
(∀ s3 : Sl,
((Ranged s3 [some .u16]) →
((p_wGcd (decide (b0 = true)) s1 (decide (b2 = true)) s3) →
(p_wAllValid (Sl.lit [[(.bool (decide (b0 = true))), (Sl.d s1)], [(.bool (decide (b2 = true))), (Sl.d s3)]])) ∧
(∀ b4 : Bool,
((q_wAllValid (Sl.lit [[(.bool (decide (b0 = true))), (Sl.d s1)], [(.bool (decide (b2 = true))), (Sl.d s3)]]) (decide (b4 = true))) →
(((¬ (b4 = true)) →
(q_wGcd (decide (b0 = true)) s1 (decide (b2 = true)) s3 (decide False) Sl.nil 2) ∧ True) ∧
(¬ (¬ (b4 = true)) →
(p_pack s1) ∧
(∀ s5 : Sl,
((Ranged s5 [some .u32]) →
((q_pack s1 s5) →
(p_pack s3) ∧
(∀ s6 : Sl,
((Ranged s6 [some .u32]) →
((q_pack s3 s6) →
(p_commonDivisor s5 s6) ∧
(∀ s7 : Sl,
((Ranged s7 [some .u32]) →
((q_commonDivisor s5 s6 s7) →
(p_unpack (decide False) s7) ∧
(∀ b8 : Bool,
(∀ s9 : Sl,
((Ranged s9 [some .u16]) →
((q_unpack (decide False) s7 (decide (b8 = true)) s9) →
(q_wGcd (decide (b0 = true)) s1 (decide (b2 = true)) s3 (decide (b8 = true)) s9 0) ∧ True))))))))))))))))))))))))
def V_wCmp : Prop :=
(∀ b0 : Bool,
(∀ s1 : Sl,
((Ranged s1 [some .u16]) →
(∀ b2 : Bool,
(∀ s3 : Sl,
((Ranged s3 [some .u16]) →
((p_wCmp (decide (b0 = true)) s1 (decide (b2 = true)) s3) →
(p_wAllValid (Sl.lit [[(.bool (decide (b0 = true))), (Sl.d s1)], [(.bool (decide (b2 = true))), (Sl.d s3)]])) ∧
(∀ b4 : Bool,
((q_wAllValid (Sl.lit [[(.bool (decide (b0 = true))), (Sl.d s1)], [(.bool (decide (b2 = true))), (Sl.d s3)]]) (decide (b4 = true))) →
(((¬ (b4 = true)) →
(q_wCmp (decide (b0 = true)) s1 (decide (b2 = true)) s3 0) ∧ True) ∧
(¬ (¬ (b4 = true)) →
(((¬ ((b0 = true) ↔ (b2 = true))) →
(((b0 = true) →
(q_wCmp (decide (b0 = true)) s1 (decide (b2 = true)) s3 (-1)) ∧ True) ∧
(¬ (b0 = true) →
(q_wCmp (decide (b0 = true)) s1 (decide (b2 = true)) s3 1) ∧ True))) ∧
(¬ (¬ ((b0 = true) ↔ (b2 = true))) →
(p_pack s1) ∧
(∀ s5 : Sl,
((Ranged s5 [some .u32]) →
((q_pack s1 s5) →
(p_pack s3) ∧
(∀ s6 : Sl,
((Ranged s6 [some .u32]) →
((q_pack s3 s6) →
(p_compare s5 s6) ∧
(∀ x7 : Int,
((Rng .i64 x7) →
((q_compare s5 s6 x7) →
(((b0 = true) →
(Rng .i64 (0 - x7)) ∧
(q_wCmp (decide (b0 = true)) s1 (decide (b2 = true)) s3 (0 - x7)) ∧ True) ∧
(¬ (b0 = true) →
(q_wCmp (decide (b0 = true)) s1 (decide (b2 = true)) s3 x7) ∧ True))))))))))))))))))))))))
end Go.Sx.N
