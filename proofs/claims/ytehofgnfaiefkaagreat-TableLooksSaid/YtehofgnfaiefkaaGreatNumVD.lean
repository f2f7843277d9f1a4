/-
  The conditions of the functions. Conditions: none; printed by a program of our own.
-/
import Derived.Test.YtehofgnfaiefkaaGreatNumBase
set_option maxRecDepth 20000
namespace Go.Sx.N
def V_rTrim : Prop :=
(∀ s0 : Sl,
((Ranged s0 [some .u16]) →
((p_rTrim s0) →
((Small s0) →
(∃ (J1 : Int → Prop) (M1 : Int → Nat), J1 (Sl.len s0) ∧
(∀ x2 : Int,
((Rng .i64 x2) →
(J1 x2 →
(((x2 > 0) →
(Rng .i64 (x2 - 1)) ∧
((0 : Int) ≤ (x2 - 1)) ∧
((x2 - 1) < (Sl.len s0)) ∧
((Rng .u16 (Sl.int s0 (x2 - 1) 0)) →
((((Sl.int s0 (x2 - 1) 0) = 0) →
(Rng .i64 (x2 - 1)) ∧
(J1 (x2 - 1) ∧ M1 (x2 - 1) < M1 x2)) ∧
(¬ ((Sl.int s0 (x2 - 1) 0) = 0) →
((0 : Int) ≤ 0) ∧
((0 : Int) ≤ x2) ∧
(x2 ≤ (Sl.len s0)) ∧
(q_rTrim s0 (Sl.part s0 0 x2)) ∧ True)))) ∧
(¬ (x2 > 0) →
((0 : Int) ≤ 0) ∧
((0 : Int) ≤ x2) ∧
(x2 ≤ (Sl.len s0)) ∧
(q_rTrim s0 (Sl.part s0 0 x2)) ∧ True))))))))))
def V_rLess : Prop :=
(∀ s0 : Sl,
((Ranged s0 [some .u16]) →
(∀ s1 : Sl,
((Ranged s1 [some .u16]) →
((p_rLess s0 s1) →
((Small s0) →
((Small s1) →
((((Sl.len s0) ≠ (Sl.len s1)) →
((Small s0) →
((Small s1) →
(q_rLess s0 s1 (decide ((Sl.len s0) < (Sl.len s1)))) ∧ True))) ∧
(¬ ((Sl.len s0) ≠ (Sl.len s1)) →
((Small s0) →
(Rng .i64 ((Sl.len s0) - 1)) ∧
(∃ (J2 : Int → Prop) (M2 : Int → Nat), J2 ((Sl.len s0) - 1) ∧
(∀ x3 : Int,
((Rng .i64 x3) →
(J2 x3 →
(((x3 ≥ 0) →
((0 : Int) ≤ x3) ∧
(x3 < (Sl.len s0)) ∧
((Rng .u16 (Sl.int s0 x3 0)) →
((0 : Int) ≤ x3) ∧
(x3 < (Sl.len s1)) ∧
((Rng .u16 (Sl.int s1 x3 0)) →
((((Sl.int s0 x3 0) ≠ (Sl.int s1 x3 0)) →
((0 : Int) ≤ x3) ∧
(x3 < (Sl.len s0)) ∧
((Rng .u16 (Sl.int s0 x3 0)) →
((0 : Int) ≤ x3) ∧
(x3 < (Sl.len s1)) ∧
((Rng .u16 (Sl.int s1 x3 0)) →
(q_rLess s0 s1 (decide ((Sl.int s0 x3 0) < (Sl.int s1 x3 0)))) ∧ True))) ∧
(¬ ((Sl.int s0 x3 0) ≠ (Sl.int s1 x3 0)) →
(Rng .i64 (x3 - 1)) ∧
(J2 (x3 - 1) ∧ M2 (x3 - 1) < M2 x3)))))) ∧
(¬ (x3 ≥ 0) →
(q_rLess s0 s1 (decide False)) ∧ True))))))))))))))))
def V_rPlus : Prop :=
(∀ s0 : Sl,
((Ranged s0 [some .u16]) →
(∀ s1 : Sl,
((Ranged s1 [some .u16]) →
((p_rPlus s0 s1) →
(∃ (J2 : Int → Sl → Int → Prop) (M2 : Int → Sl → Int → Nat), J2 0 Sl.nil 0 ∧
(∀ x3 : Int,
((Rng .i64 x3) →
(∀ s4 : Sl,
((Ranged s4 [some .u16]) →
(∀ x5 : Int,
((Rng .i64 x5) →
(J2 x3 s4 x5 →
(∃ J6 : Prop,
((((Small s0) →
(((x5 < (Sl.len s0)) → J6 ) ∧
(¬ (x5 < (Sl.len s0)) →
((Small s1) →
(((x5 < (Sl.len s1)) → J6 ) ∧
(¬ (x5 < (Sl.len s1)) →
(((x3 > 0) → J6 ) ∧
(¬ (x3 > 0) →
(q_rPlus s0 s1 s4) ∧ True))))))))) ∧
((J6  →
(∃ J7 : Int → Prop,
((((Small s0) →
(((x5 < (Sl.len s0)) →
((0 : Int) ≤ x5) ∧
(x5 < (Sl.len s0)) ∧
((Rng .u16 (Sl.int s0 x5 0)) →
(Rng .i64 (x3 + (Sl.int s0 x5 0))) ∧ J7 (x3 + (Sl.int s0 x5 0)))) ∧
(¬ (x5 < (Sl.len s0)) → J7 x3)))) ∧
((∀ x8 : Int,
((Rng .i64 x8) →
(J7 x8 →
(∃ J9 : Int → Prop,
((((Small s1) →
(((x5 < (Sl.len s1)) →
((0 : Int) ≤ x5) ∧
(x5 < (Sl.len s1)) ∧
((Rng .u16 (Sl.int s1 x5 0)) →
(Rng .i64 (x8 + (Sl.int s1 x5 0))) ∧ J9 (x8 + (Sl.int s1 x5 0)))) ∧
(¬ (x5 < (Sl.len s1)) → J9 x8)))) ∧
((∀ x10 : Int,
((Rng .i64 x10) →
(J9 x10 →
((65536 : Int) ≠ 0) ∧
(Rng .i64 (Int.tmod x10 65536)) ∧
((((Sl.len s4) + (Sl.len (Sl.lit [[(.int (IntKind.wrap .u16 (Int.tmod x10 65536)))]]))) * 2) ≤ 140737488355328) ∧
((65536 : Int) ≠ 0) ∧
(Rng .i64 (Int.tdiv x10 65536)) ∧
(Rng .i64 (x5 + 1)) ∧
(J2 (Int.tdiv x10 65536) (Sl.app s4 (Sl.lit [[(.int (IntKind.wrap .u16 (Int.tmod x10 65536)))]])) (x5 + 1) ∧ M2 (Int.tdiv x10 65536) (Sl.app s4 (Sl.lit [[(.int (IntKind.wrap .u16 (Int.tmod x10 65536)))]])) (x5 + 1) < M2 x3 s4 x5))))))))))))))))))))))))))))))
def V_rMinus : Prop :=
(∀ s0 : Sl,
((Ranged s0 [some .u16]) →
(∀ s1 : Sl,
((Ranged s1 [some .u16]) →
((p_rMinus s0 s1) →
(∃ (J2 : Sl → Int → Int → Prop) (M2 : Sl → Int → Int → Nat), J2 Sl.nil 0 0 ∧
(∀ s3 : Sl,
((Ranged s3 [some .u16]) →
(∀ x4 : Int,
((Rng .i64 x4) →
(∀ x5 : Int,
((Rng .i64 x5) →
(J2 s3 x4 x5 →
((Small s0) →
(((x5 < (Sl.len s0)) →
((0 : Int) ≤ x5) ∧
(x5 < (Sl.len s0)) ∧
((Rng .u16 (Sl.int s0 x5 0)) →
(Rng .i64 (65536 + (Sl.int s0 x5 0))) ∧
(Rng .i64 ((65536 + (Sl.int s0 x5 0)) - x4)) ∧
((Small s1) →
(((x5 < (Sl.len s1)) →
((0 : Int) ≤ x5) ∧
(x5 < (Sl.len s1)) ∧
((Rng .u16 (Sl.int s1 x5 0)) →
(Rng .i64 (((65536 + (Sl.int s0 x5 0)) - x4) - (Sl.int s1 x5 0))) ∧
((65536 : Int) ≠ 0) ∧
(Rng .i64 (Int.tmod (((65536 + (Sl.int s0 x5 0)) - x4) - (Sl.int s1 x5 0)) 65536)) ∧
((((Sl.len s3) + (Sl.len (Sl.lit [[(.int (IntKind.wrap .u16 (Int.tmod (((65536 + (Sl.int s0 x5 0)) - x4) - (Sl.int s1 x5 0)) 65536)))]]))) * 2) ≤ 140737488355328) ∧
((65536 : Int) ≠ 0) ∧
(Rng .i64 (Int.tdiv (((65536 + (Sl.int s0 x5 0)) - x4) - (Sl.int s1 x5 0)) 65536)) ∧
(Rng .i64 (1 - (Int.tdiv (((65536 + (Sl.int s0 x5 0)) - x4) - (Sl.int s1 x5 0)) 65536))) ∧
(Rng .i64 (x5 + 1)) ∧
(J2 (Sl.app s3 (Sl.lit [[(.int (IntKind.wrap .u16 (Int.tmod (((65536 + (Sl.int s0 x5 0)) - x4) - (Sl.int s1 x5 0)) 65536)))]])) (1 - (Int.tdiv (((65536 + (Sl.int s0 x5 0)) - x4) - (Sl.int s1 x5 0)) 65536)) (x5 + 1) ∧ M2 (Sl.app s3 (Sl.lit [[(.int (IntKind.wrap .u16 (Int.tmod (((65536 + (Sl.int s0 x5 0)) - x4) - (Sl.int s1 x5 0)) 65536)))]])) (1 - (Int.tdiv (((65536 + (Sl.int s0 x5 0)) - x4) - (Sl.int s1 x5 0)) 65536)) (x5 + 1) < M2 s3 x4 x5))) ∧
(¬ (x5 < (Sl.len s1)) →
((65536 : Int) ≠ 0) ∧
(Rng .i64 (Int.tmod ((65536 + (Sl.int s0 x5 0)) - x4) 65536)) ∧
((((Sl.len s3) + (Sl.len (Sl.lit [[(.int (IntKind.wrap .u16 (Int.tmod ((65536 + (Sl.int s0 x5 0)) - x4) 65536)))]]))) * 2) ≤ 140737488355328) ∧
((65536 : Int) ≠ 0) ∧
(Rng .i64 (Int.tdiv ((65536 + (Sl.int s0 x5 0)) - x4) 65536)) ∧
(Rng .i64 (1 - (Int.tdiv ((65536 + (Sl.int s0 x5 0)) - x4) 65536))) ∧
(Rng .i64 (x5 + 1)) ∧
(J2 (Sl.app s3 (Sl.lit [[(.int (IntKind.wrap .u16 (Int.tmod ((65536 + (Sl.int s0 x5 0)) - x4) 65536)))]])) (1 - (Int.tdiv ((65536 + (Sl.int s0 x5 0)) - x4) 65536)) (x5 + 1) ∧ M2 (Sl.app s3 (Sl.lit [[(.int (IntKind.wrap .u16 (Int.tmod ((65536 + (Sl.int s0 x5 0)) - x4) 65536)))]])) (1 - (Int.tdiv ((65536 + (Sl.int s0 x5 0)) - x4) 65536)) (x5 + 1) < M2 s3 x4 x5)))))) ∧
(¬ (x5 < (Sl.len s0)) →
(p_rTrim s3) ∧
(∀ s6 : Sl,
((Ranged s6 [some .u16]) →
((q_rTrim s3 s6) →
(q_rMinus s0 s1 s6) ∧ True)))))))))))))))))))
def V_rHalf : Prop :=
(∀ s0 : Sl,
((Ranged s0 [some .u16]) →
((p_rHalf s0) →
((Small s0) →
((0 : Int) ≤ (Sl.len s0)) ∧
((Sl.len s0) ≤ (Sl.len s0)) ∧
(((Sl.len s0) * 2) ≤ 140737488355328) ∧
((Small s0) →
(Rng .i64 ((Sl.len s0) - 1)) ∧
(∃ (J1 : Int → Int → Sl → Prop) (M1 : Int → Int → Sl → Nat), J1 0 ((Sl.len s0) - 1) (Sl.rep (Sl.len s0) [(.int 0)]) ∧
(∀ x2 : Int,
((Rng .i64 x2) →
(∀ x3 : Int,
((Rng .i64 x3) →
(∀ s4 : Sl,
((Ranged s4 [some .u16]) →
(J1 x2 x3 s4 →
(((x3 ≥ 0) →
((2 : Int) ≠ 0) ∧
(Rng .i64 (Int.tmod x2 2)) ∧
(Rng .i64 ((Int.tmod x2 2) * 65536)) ∧
((0 : Int) ≤ x3) ∧
(x3 < (Sl.len s0)) ∧
((Rng .u16 (Sl.int s0 x3 0)) →
(Rng .i64 (((Int.tmod x2 2) * 65536) + (Sl.int s0 x3 0))) ∧
((2 : Int) ≠ 0) ∧
(Rng .i64 (Int.tdiv (((Int.tmod x2 2) * 65536) + (Sl.int s0 x3 0)) 2)) ∧
((0 : Int) ≤ x3) ∧
(x3 < (Sl.len s4)) ∧
(Rng .i64 (x3 - 1)) ∧
(J1 (((Int.tmod x2 2) * 65536) + (Sl.int s0 x3 0)) (x3 - 1) (Sl.upd s4 x3 0 [(.int (IntKind.wrap .u16 (Int.tdiv (((Int.tmod x2 2) * 65536) + (Sl.int s0 x3 0)) 2)))]) ∧ M1 (((Int.tmod x2 2) * 65536) + (Sl.int s0 x3 0)) (x3 - 1) (Sl.upd s4 x3 0 [(.int (IntKind.wrap .u16 (Int.tdiv (((Int.tmod x2 2) * 65536) + (Sl.int s0 x3 0)) 2)))]) < M1 x2 x3 s4))) ∧
(¬ (x3 ≥ 0) →
(p_rTrim s4) ∧
(∀ s5 : Sl,
((Ranged s5 [some .u16]) →
((q_rTrim s4 s5) →
(q_rHalf s0 s5) ∧ True))))))))))))))))))
def V_rShort : Prop :=
(∀ s0 : Sl,
((Ranged s0 [some .u16]) →
(∀ x1 : Int,
((Rng .i64 x1) →
((p_rShort s0 x1) →
((Small s0) →
((0 : Int) ≤ (Sl.len s0)) ∧
((Sl.len s0) ≤ (Sl.len s0)) ∧
(((Sl.len s0) * 2) ≤ 140737488355328) ∧
((Small s0) →
(Rng .i64 ((Sl.len s0) - 1)) ∧
(∃ (J2 : Int → Int → Sl → Prop) (M2 : Int → Int → Sl → Nat), J2 0 ((Sl.len s0) - 1) (Sl.rep (Sl.len s0) [(.int 0)]) ∧
(∀ x3 : Int,
((Rng .i64 x3) →
(∀ x4 : Int,
((Rng .i64 x4) →
(∀ s5 : Sl,
((Ranged s5 [some .u16]) →
(J2 x3 x4 s5 →
(((x4 ≥ 0) →
(Rng .i64 (x3 * 65536)) ∧
((0 : Int) ≤ x4) ∧
(x4 < (Sl.len s0)) ∧
((Rng .u16 (Sl.int s0 x4 0)) →
(Rng .i64 ((x3 * 65536) + (Sl.int s0 x4 0))) ∧
(x1 ≠ 0) ∧
(Rng .i64 (Int.tdiv ((x3 * 65536) + (Sl.int s0 x4 0)) x1)) ∧
((0 : Int) ≤ x4) ∧
(x4 < (Sl.len s5)) ∧
(x1 ≠ 0) ∧
(Rng .i64 (Int.tmod ((x3 * 65536) + (Sl.int s0 x4 0)) x1)) ∧
(Rng .i64 (x4 - 1)) ∧
(J2 (Int.tmod ((x3 * 65536) + (Sl.int s0 x4 0)) x1) (x4 - 1) (Sl.upd s5 x4 0 [(.int (IntKind.wrap .u16 (Int.tdiv ((x3 * 65536) + (Sl.int s0 x4 0)) x1)))]) ∧ M2 (Int.tmod ((x3 * 65536) + (Sl.int s0 x4 0)) x1) (x4 - 1) (Sl.upd s5 x4 0 [(.int (IntKind.wrap .u16 (Int.tdiv ((x3 * 65536) + (Sl.int s0 x4 0)) x1)))]) < M2 x3 x4 s5))) ∧
(¬ (x4 ≥ 0) →
(p_rTrim s5) ∧
(∀ s6 : Sl,
((Ranged s6 [some .u16]) →
((q_rTrim s5 s6) →
(p_rTrim (Sl.lit [[(.int (IntKind.wrap .u16 x3))]])) ∧
(∀ s7 : Sl,
((Ranged s7 [some .u16]) →
((q_rTrim (Sl.lit [[(.int (IntKind.wrap .u16 x3))]]) s7) →
(q_rShort s0 x1 s6 s7) ∧ True)))))))))))))))))))))))
def V_rDivided : Prop :=
(∀ s0 : Sl,
((Ranged s0 [some .u16]) →
(∀ s1 : Sl,
((Ranged s1 [some .u16]) →
((p_rDivided s0 s1) →
((Small s1) →
((((Sl.len s1) = 1) →
((0 : Int) ≤ 0) ∧
((0 : Int) < (Sl.len s1)) ∧
((Rng .u16 (Sl.int s1 0 0)) →
(p_rShort s0 (Sl.int s1 0 0)) ∧
(∀ s2 : Sl,
((Ranged s2 [some .u16]) →
(∀ s3 : Sl,
((Ranged s3 [some .u16]) →
((q_rShort s0 (Sl.int s1 0 0) s2 s3) →
(q_rDivided s0 s1 s2 s3) ∧ True))))))) ∧
(¬ ((Sl.len s1) = 1) →
(∃ (J2 : Sl → Int → Prop) (M2 : Sl → Int → Nat), J2 s1 0 ∧
(∀ s3 : Sl,
((Ranged s3 [some .u16]) →
(∀ x4 : Int,
((Rng .i64 x4) →
(J2 s3 x4 →
(p_rLess s0 s3) ∧
(∀ b5 : Bool,
((q_rLess s0 s3 (decide (b5 = true))) →
(((¬ (b5 = true)) →
(p_rPlus s3 s3) ∧
(∀ s6 : Sl,
((Ranged s6 [some .u16]) →
((q_rPlus s3 s3 s6) →
(Rng .i64 (x4 + 1)) ∧
(J2 s6 (x4 + 1) ∧ M2 s6 (x4 + 1) < M2 s3 x4))))) ∧
(¬ (¬ (b5 = true)) →
(∃ (J6 : Sl → Int → Prop) (M6 : Sl → Int → Nat), J6 s1 0 ∧
(∀ s7 : Sl,
((Ranged s7 [some .u16]) →
(∀ x8 : Int,
((Rng .i64 x8) →
(J6 s7 x8 →
(((x8 < x4) →
(p_rPlus s7 s7) ∧
(∀ s9 : Sl,
((Ranged s9 [some .u16]) →
((q_rPlus s7 s7 s9) →
(Rng .i64 (x8 + 1)) ∧
(J6 s9 (x8 + 1) ∧ M6 s9 (x8 + 1) < M6 s7 x8))))) ∧
(¬ (x8 < x4) →
((((Sl.len (Sl.lit [])) + (Sl.len s0)) * 2) ≤ 140737488355328) ∧
(∃ (J9 : Sl → Sl → Sl → Int → Prop) (M9 : Sl → Sl → Sl → Int → Nat), J9 s7 Sl.nil (Sl.app (Sl.lit []) s0) 0 ∧
(∀ s10 : Sl,
((Ranged s10 [some .u16]) →
(∀ s11 : Sl,
((Ranged s11 [some .u16]) →
(∀ s12 : Sl,
((Ranged s12 [some .u16]) →
(∀ x13 : Int,
((Rng .i64 x13) →
(J9 s10 s11 s12 x13 →
(((x13 < x4) →
(p_rHalf s10) ∧
(∀ s14 : Sl,
((Ranged s14 [some .u16]) →
((q_rHalf s10 s14) →
(p_rPlus s11 s11) ∧
(∀ s15 : Sl,
((Ranged s15 [some .u16]) →
((q_rPlus s11 s11 s15) →
(p_rLess s12 s14) ∧
(∀ b16 : Bool,
((q_rLess s12 s14 (decide (b16 = true))) →
(((¬ (b16 = true)) →
(p_rMinus s12 s14) ∧
(∀ s17 : Sl,
((Ranged s17 [some .u16]) →
((q_rMinus s12 s14 s17) →
(p_rPlus s15 (Sl.lit [[(.int 1)]])) ∧
(∀ s18 : Sl,
((Ranged s18 [some .u16]) →
((q_rPlus s15 (Sl.lit [[(.int 1)]]) s18) →
(Rng .i64 (x13 + 1)) ∧
(J9 s14 s18 s17 (x13 + 1) ∧ M9 s14 s18 s17 (x13 + 1) < M9 s10 s11 s12 x13)))))))) ∧
(¬ (¬ (b16 = true)) →
(Rng .i64 (x13 + 1)) ∧
(J9 s14 s15 s12 (x13 + 1) ∧ M9 s14 s15 s12 (x13 + 1) < M9 s10 s11 s12 x13)))))))))))) ∧
(¬ (x13 < x4) →
(q_rDivided s0 s1 s11 s12) ∧ True))))))))))))))))))))))))))))))))))))))
def V_rValid1 : Prop :=
(∀ b0 : Bool,
(∀ s1 : Sl,
((Ranged s1 [some .u16]) →
((p_rValid1 (decide (b0 = true)) s1) →
((Small s1) →
((((Sl.len s1) = 0) →
(q_rValid1 (decide (b0 = true)) s1 (decide (¬ (b0 = true)))) ∧ True) ∧
(¬ ((Sl.len s1) = 0) →
((Small s1) →
((((Sl.len s1) ≤ 1024) →
((Small s1) →
(Rng .i64 ((Sl.len s1) - 1)) ∧
((0 : Int) ≤ ((Sl.len s1) - 1)) ∧
(((Sl.len s1) - 1) < (Sl.len s1)) ∧
((Rng .u16 (Sl.int s1 ((Sl.len s1) - 1) 0)) →
(q_rValid1 (decide (b0 = true)) s1 (decide ((Sl.int s1 ((Sl.len s1) - 1) 0) ≠ 0))) ∧ True))) ∧
(¬ ((Sl.len s1) ≤ 1024) →
(q_rValid1 (decide (b0 = true)) s1 (decide False)) ∧ True))))))))))
def V_rCommon : Prop :=
(∀ s0 : Sl,
((Ranged s0 [some .u16]) →
(∀ s1 : Sl,
((Ranged s1 [some .u16]) →
((p_rCommon s0 s1) →
(∃ (J2 : Sl → Sl → Prop) (M2 : Sl → Sl → Nat), J2 s0 s1 ∧
(∀ s3 : Sl,
((Ranged s3 [some .u16]) →
(∀ s4 : Sl,
((Ranged s4 [some .u16]) →
(J2 s3 s4 →
((Small s4) →
((((Sl.len s4) > 0) →
(p_rDivided s3 s4) ∧
(∀ s5 : Sl,
((Ranged s5 [some .u16]) →
(∀ s6 : Sl,
((Ranged s6 [some .u16]) →
((q_rDivided s3 s4 s5 s6) →
(J2 s4 s6 ∧ M2 s4 s6 < M2 s3 s4))))))) ∧
(¬ ((Sl.len s4) > 0) →
(q_rCommon s0 s1 s3) ∧ True))))))))))))))
end Go.Sx.N
