/-
  The conditions of the functions. Conditions: none; printed by a program of our own.
-/
import Derived.Test.YtljmbenpkbjmmaaGreatNumBase
set_option maxRecDepth 20000
namespace Go.Sx.N
def V_opposite : Prop :=
(∀ b0 : Bool,
(∀ s1 : Sl,
((Ranged s1 [some .u16]) →
((p_opposite (decide (b0 = true)) s1) →
(((¬ (b0 = true)) →
((Small s1) →
(p_Clone16 s1) ∧
(∀ s2 : Sl,
((Ranged s2 [some .u16]) →
((q_Clone16 s1 s2) →
(q_opposite (decide (b0 = true)) s1 (decide ((Sl.len s1) > 0)) s2) ∧ True))))) ∧
(¬ (¬ (b0 = true)) →
(p_Clone16 s1) ∧
(∀ s2 : Sl,
((Ranged s2 [some .u16]) →
((q_Clone16 s1 s2) →
(q_opposite (decide (b0 = true)) s1 (decide False) s2) ∧ True)))))))))
def V_fDivisor : Prop :=
(∀ b0 : Bool,
(∀ s1 : Sl,
((Ranged s1 [some .u16]) →
(∀ b2 : Bool,
(∀ s3 : Sl,
((Ranged s3 [some .u16]) →
((p_fDivisor (decide (b0 = true)) s1 (decide (b2 = true)) s3) →
(p_wGcd (decide (b0 = true)) s1 (decide (b2 = true)) s3) ∧
(∀ b4 : Bool,
(∀ s5 : Sl,
((Ranged s5 [some .u16]) →
(∀ x6 : Int,
((Rng .i64 x6) →
((q_wGcd (decide (b0 = true)) s1 (decide (b2 = true)) s3 (decide (b4 = true)) s5 x6) →
(q_fDivisor (decide (b0 = true)) s1 (decide (b2 = true)) s3 (decide (b4 = true)) s5) ∧ True)))))))))))))
def V_fPlus : Prop :=
(∀ b0 : Bool,
(∀ s1 : Sl,
((Ranged s1 [some .u16]) →
(∀ b2 : Bool,
(∀ s3 : Sl,
((Ranged s3 [some .u16]) →
((p_fPlus (decide (b0 = true)) s1 (decide (b2 = true)) s3) →
(p_wAdd (decide (b0 = true)) s1 (decide (b2 = true)) s3) ∧
(∀ b4 : Bool,
(∀ s5 : Sl,
((Ranged s5 [some .u16]) →
(∀ x6 : Int,
((Rng .i64 x6) →
((q_wAdd (decide (b0 = true)) s1 (decide (b2 = true)) s3 (decide (b4 = true)) s5 x6) →
(q_fPlus (decide (b0 = true)) s1 (decide (b2 = true)) s3 (decide (b4 = true)) s5) ∧ True)))))))))))))
def V_fTimes : Prop :=
(∀ b0 : Bool,
(∀ s1 : Sl,
((Ranged s1 [some .u16]) →
(∀ b2 : Bool,
(∀ s3 : Sl,
((Ranged s3 [some .u16]) →
((p_fTimes (decide (b0 = true)) s1 (decide (b2 = true)) s3) →
(p_wMul (decide (b0 = true)) s1 (decide (b2 = true)) s3) ∧
(∀ b4 : Bool,
(∀ s5 : Sl,
((Ranged s5 [some .u16]) →
(∀ x6 : Int,
((Rng .i64 x6) →
((q_wMul (decide (b0 = true)) s1 (decide (b2 = true)) s3 (decide (b4 = true)) s5 x6) →
(q_fTimes (decide (b0 = true)) s1 (decide (b2 = true)) s3 (decide (b4 = true)) s5) ∧ True)))))))))))))
def V_fDivide : Prop :=
(∀ b0 : Bool,
(∀ s1 : Sl,
((Ranged s1 [some .u16]) →
(∀ b2 : Bool,
(∀ s3 : Sl,
((Ranged s3 [some .u16]) →
((p_fDivide (decide (b0 = true)) s1 (decide (b2 = true)) s3) →
(p_wDivMod (decide (b0 = true)) s1 (decide (b2 = true)) s3) ∧
(∀ b4 : Bool,
(∀ s5 : Sl,
((Ranged s5 [some .u16]) →
(∀ b6 : Bool,
(∀ s7 : Sl,
((Ranged s7 [some .u16]) →
(∀ x8 : Int,
((Rng .i64 x8) →
((q_wDivMod (decide (b0 = true)) s1 (decide (b2 = true)) s3 (decide (b4 = true)) s5 (decide (b6 = true)) s7 x8) →
(((((q_fDivide (decide (b0 = true)) s1 (decide (b2 = true)) s3 (decide (b4 = true)) s5 (decide (b6 = true)) s7) ∧ True) ∧
((q_fDivide (decide (b0 = true)) s1 (decide (b2 = true)) s3 (decide (b4 = true)) s5 (decide (b6 = true)) s7) ∧ True))) ∧
((q_fDivide (decide (b0 = true)) s1 (decide (b2 = true)) s3 (decide (b4 = true)) s5 (decide (b6 = true)) s7) ∧ True))))))))))))))))))
def V_lowest : Prop :=
(∀ b0 : Bool,
(∀ s1 : Sl,
((Ranged s1 [some .u16]) →
(∀ b2 : Bool,
(∀ s3 : Sl,
((Ranged s3 [some .u16]) →
((p_lowest (decide (b0 = true)) s1 (decide (b2 = true)) s3) →
(((b2 = true) →
(((((p_opposite (decide (b0 = true)) s1) ∧
(∀ b4 : Bool,
(∀ s5 : Sl,
((Ranged s5 [some .u16]) →
((q_opposite (decide (b0 = true)) s1 (decide (b4 = true)) s5) →
(p_opposite (decide (b2 = true)) s3) ∧
(∀ b6 : Bool,
(∀ s7 : Sl,
((Ranged s7 [some .u16]) →
((q_opposite (decide (b2 = true)) s3 (decide (b6 = true)) s7) →
(p_fDivisor (decide (b4 = true)) s5 (decide (b6 = true)) s7) ∧
(∀ b8 : Bool,
(∀ s9 : Sl,
((Ranged s9 [some .u16]) →
((q_fDivisor (decide (b4 = true)) s5 (decide (b6 = true)) s7 (decide (b8 = true)) s9) →
(p_fDivide (decide (b4 = true)) s5 (decide (b8 = true)) s9) ∧
(∀ b10 : Bool,
(∀ s11 : Sl,
((Ranged s11 [some .u16]) →
(∀ b12 : Bool,
(∀ s13 : Sl,
((Ranged s13 [some .u16]) →
((q_fDivide (decide (b4 = true)) s5 (decide (b8 = true)) s9 (decide (b10 = true)) s11 (decide (b12 = true)) s13) →
(p_fDivide (decide (b6 = true)) s7 (decide (b8 = true)) s9) ∧
(∀ b14 : Bool,
(∀ s15 : Sl,
((Ranged s15 [some .u16]) →
(∀ b16 : Bool,
(∀ s17 : Sl,
((Ranged s17 [some .u16]) →
((q_fDivide (decide (b6 = true)) s7 (decide (b8 = true)) s9 (decide (b14 = true)) s15 (decide (b16 = true)) s17) →
(q_lowest (decide (b0 = true)) s1 (decide (b2 = true)) s3 (decide (b10 = true)) s11 (decide (b14 = true)) s15) ∧ True))))))))))))))))))))))))))) ∧
((p_opposite (decide (b0 = true)) s1) ∧
(∀ b4 : Bool,
(∀ s5 : Sl,
((Ranged s5 [some .u16]) →
((q_opposite (decide (b0 = true)) s1 (decide (b4 = true)) s5) →
(p_opposite (decide (b2 = true)) s3) ∧
(∀ b6 : Bool,
(∀ s7 : Sl,
((Ranged s7 [some .u16]) →
((q_opposite (decide (b2 = true)) s3 (decide (b6 = true)) s7) →
(p_fDivisor (decide (b4 = true)) s5 (decide (b6 = true)) s7) ∧
(∀ b8 : Bool,
(∀ s9 : Sl,
((Ranged s9 [some .u16]) →
((q_fDivisor (decide (b4 = true)) s5 (decide (b6 = true)) s7 (decide (b8 = true)) s9) →
(p_fDivide (decide (b4 = true)) s5 (decide (b8 = true)) s9) ∧
(∀ b10 : Bool,
(∀ s11 : Sl,
((Ranged s11 [some .u16]) →
(∀ b12 : Bool,
(∀ s13 : Sl,
((Ranged s13 [some .u16]) →
((q_fDivide (decide (b4 = true)) s5 (decide (b8 = true)) s9 (decide (b10 = true)) s11 (decide (b12 = true)) s13) →
(p_fDivide (decide (b6 = true)) s7 (decide (b8 = true)) s9) ∧
(∀ b14 : Bool,
(∀ s15 : Sl,
((Ranged s15 [some .u16]) →
(∀ b16 : Bool,
(∀ s17 : Sl,
((Ranged s17 [some .u16]) →
((q_fDivide (decide (b6 = true)) s7 (decide (b8 = true)) s9 (decide (b14 = true)) s15 (decide (b16 = true)) s17) →
(q_lowest (decide (b0 = true)) s1 (decide (b2 = true)) s3 (decide (b10 = true)) s11 (decide (b14 = true)) s15) ∧ True))))))))))))))))))))))))))))) ∧
((p_opposite (decide (b0 = true)) s1) ∧
(∀ b4 : Bool,
(∀ s5 : Sl,
((Ranged s5 [some .u16]) →
((q_opposite (decide (b0 = true)) s1 (decide (b4 = true)) s5) →
(p_opposite (decide (b2 = true)) s3) ∧
(∀ b6 : Bool,
(∀ s7 : Sl,
((Ranged s7 [some .u16]) →
((q_opposite (decide (b2 = true)) s3 (decide (b6 = true)) s7) →
(p_fDivisor (decide (b4 = true)) s5 (decide (b6 = true)) s7) ∧
(∀ b8 : Bool,
(∀ s9 : Sl,
((Ranged s9 [some .u16]) →
((q_fDivisor (decide (b4 = true)) s5 (decide (b6 = true)) s7 (decide (b8 = true)) s9) →
(p_fDivide (decide (b4 = true)) s5 (decide (b8 = true)) s9) ∧
(∀ b10 : Bool,
(∀ s11 : Sl,
((Ranged s11 [some .u16]) →
(∀ b12 : Bool,
(∀ s13 : Sl,
((Ranged s13 [some .u16]) →
((q_fDivide (decide (b4 = true)) s5 (decide (b8 = true)) s9 (decide (b10 = true)) s11 (decide (b12 = true)) s13) →
(p_fDivide (decide (b6 = true)) s7 (decide (b8 = true)) s9) ∧
(∀ b14 : Bool,
(∀ s15 : Sl,
((Ranged s15 [some .u16]) →
(∀ b16 : Bool,
(∀ s17 : Sl,
((Ranged s17 [some .u16]) →
((q_fDivide (decide (b6 = true)) s7 (decide (b8 = true)) s9 (decide (b14 = true)) s15 (decide (b16 = true)) s17) →
(q_lowest (decide (b0 = true)) s1 (decide (b2 = true)) s3 (decide (b10 = true)) s11 (decide (b14 = true)) s15) ∧ True))))))))))))))))))))))))))))) ∧
(¬ (b2 = true) →
(p_fDivisor (decide (b0 = true)) s1 (decide (b2 = true)) s3) ∧
(∀ b4 : Bool,
(∀ s5 : Sl,
((Ranged s5 [some .u16]) →
((q_fDivisor (decide (b0 = true)) s1 (decide (b2 = true)) s3 (decide (b4 = true)) s5) →
(p_fDivide (decide (b0 = true)) s1 (decide (b4 = true)) s5) ∧
(∀ b6 : Bool,
(∀ s7 : Sl,
((Ranged s7 [some .u16]) →
(∀ b8 : Bool,
(∀ s9 : Sl,
((Ranged s9 [some .u16]) →
((q_fDivide (decide (b0 = true)) s1 (decide (b4 = true)) s5 (decide (b6 = true)) s7 (decide (b8 = true)) s9) →
(p_fDivide (decide (b2 = true)) s3 (decide (b4 = true)) s5) ∧
(∀ b10 : Bool,
(∀ s11 : Sl,
((Ranged s11 [some .u16]) →
(∀ b12 : Bool,
(∀ s13 : Sl,
((Ranged s13 [some .u16]) →
((q_fDivide (decide (b2 = true)) s3 (decide (b4 = true)) s5 (decide (b10 = true)) s11 (decide (b12 = true)) s13) →
(q_lowest (decide (b0 = true)) s1 (decide (b2 = true)) s3 (decide (b6 = true)) s7 (decide (b10 = true)) s11) ∧ True)))))))))))))))))))))))))))
def V_fValid : Prop :=
(∀ b0 : Bool,
(∀ s1 : Sl,
((Ranged s1 [some .u16]) →
(∀ b2 : Bool,
(∀ s3 : Sl,
((Ranged s3 [some .u16]) →
((p_fValid (decide (b0 = true)) s1 (decide (b2 = true)) s3) →
((Small s1) →
((((Sl.len s1) > 256) →
(q_fValid (decide (b0 = true)) s1 (decide (b2 = true)) s3 (decide False)) ∧ True) ∧
(¬ ((Sl.len s1) > 256) →
((Small s3) →
((((Sl.len s3) > 256) →
(q_fValid (decide (b0 = true)) s1 (decide (b2 = true)) s3 (decide False)) ∧ True) ∧
(¬ ((Sl.len s3) > 256) →
(p_wValid (decide (b0 = true)) s1) ∧
(∀ b4 : Bool,
((q_wValid (decide (b0 = true)) s1 (decide (b4 = true))) →
(((¬ (b4 = true)) →
(q_fValid (decide (b0 = true)) s1 (decide (b2 = true)) s3 (decide False)) ∧ True) ∧
(¬ (¬ (b4 = true)) →
(p_wValid (decide (b2 = true)) s3) ∧
(∀ b5 : Bool,
((q_wValid (decide (b2 = true)) s3 (decide (b5 = true))) →
(((¬ (b5 = true)) →
(q_fValid (decide (b0 = true)) s1 (decide (b2 = true)) s3 (decide False)) ∧ True) ∧
(¬ (¬ (b5 = true)) →
(((b2 = true) →
(q_fValid (decide (b0 = true)) s1 (decide (b2 = true)) s3 (decide False)) ∧ True) ∧
(¬ (b2 = true) →
((Small s3) →
((((Sl.len s3) = 0) →
(q_fValid (decide (b0 = true)) s1 (decide (b2 = true)) s3 (decide False)) ∧ True) ∧
(¬ ((Sl.len s3) = 0) →
(((¬ (b2 = true)) →
((Small s3) →
((((Sl.len s3) = 1) →
((0 : Int) ≤ 0) ∧
((0 : Int) < (Sl.len s3)) ∧
((Rng .u16 (Sl.int s3 0 0)) →
((((Sl.int s3 0 0) = 1) →
(q_fValid (decide (b0 = true)) s1 (decide (b2 = true)) s3 (decide True)) ∧ True) ∧
(¬ ((Sl.int s3 0 0) = 1) →
(p_fDivisor (decide (b0 = true)) s1 (decide (b2 = true)) s3) ∧
(∀ b6 : Bool,
(∀ s7 : Sl,
((Ranged s7 [some .u16]) →
((q_fDivisor (decide (b0 = true)) s1 (decide (b2 = true)) s3 (decide (b6 = true)) s7) →
(((¬ (b6 = true)) →
((Small s7) →
((((Sl.len s7) = 1) →
((0 : Int) ≤ 0) ∧
((0 : Int) < (Sl.len s7)) ∧
((Rng .u16 (Sl.int s7 0 0)) →
(q_fValid (decide (b0 = true)) s1 (decide (b2 = true)) s3 (decide ((Sl.int s7 0 0) = 1))) ∧ True)) ∧
(¬ ((Sl.len s7) = 1) →
(q_fValid (decide (b0 = true)) s1 (decide (b2 = true)) s3 (decide False)) ∧ True)))) ∧
(¬ (¬ (b6 = true)) →
(q_fValid (decide (b0 = true)) s1 (decide (b2 = true)) s3 (decide False)) ∧ True)))))))))) ∧
(¬ ((Sl.len s3) = 1) →
(p_fDivisor (decide (b0 = true)) s1 (decide (b2 = true)) s3) ∧
(∀ b6 : Bool,
(∀ s7 : Sl,
((Ranged s7 [some .u16]) →
((q_fDivisor (decide (b0 = true)) s1 (decide (b2 = true)) s3 (decide (b6 = true)) s7) →
(((¬ (b6 = true)) →
((Small s7) →
((((Sl.len s7) = 1) →
((0 : Int) ≤ 0) ∧
((0 : Int) < (Sl.len s7)) ∧
((Rng .u16 (Sl.int s7 0 0)) →
(q_fValid (decide (b0 = true)) s1 (decide (b2 = true)) s3 (decide ((Sl.int s7 0 0) = 1))) ∧ True)) ∧
(¬ ((Sl.len s7) = 1) →
(q_fValid (decide (b0 = true)) s1 (decide (b2 = true)) s3 (decide False)) ∧ True)))) ∧
(¬ (¬ (b6 = true)) →
(q_fValid (decide (b0 = true)) s1 (decide (b2 = true)) s3 (decide False)) ∧ True)))))))))) ∧
(¬ (¬ (b2 = true)) →
(p_fDivisor (decide (b0 = true)) s1 (decide (b2 = true)) s3) ∧
(∀ b6 : Bool,
(∀ s7 : Sl,
((Ranged s7 [some .u16]) →
((q_fDivisor (decide (b0 = true)) s1 (decide (b2 = true)) s3 (decide (b6 = true)) s7) →
(((¬ (b6 = true)) →
((Small s7) →
((((Sl.len s7) = 1) →
((0 : Int) ≤ 0) ∧
((0 : Int) < (Sl.len s7)) ∧
((Rng .u16 (Sl.int s7 0 0)) →
(q_fValid (decide (b0 = true)) s1 (decide (b2 = true)) s3 (decide ((Sl.int s7 0 0) = 1))) ∧ True)) ∧
(¬ ((Sl.len s7) = 1) →
(q_fValid (decide (b0 = true)) s1 (decide (b2 = true)) s3 (decide False)) ∧ True)))) ∧
(¬ (¬ (b6 = true)) →
(q_fValid (decide (b0 = true)) s1 (decide (b2 = true)) s3 (decide False)) ∧ True))))))))))))))))))))))))))))))))))
def V_fAllValid : Prop :=
(∀ s0 : Sl,
((Ranged s0 [none, none, none, none]) →
((p_fAllValid s0) →
((Small s0) →
(∃ (J1 : Int → Prop) (M1 : Int → Nat), J1 0 ∧
(∀ x2 : Int,
((Rng .i64 x2) →
(J1 x2 →
(((x2 < (Sl.len s0)) →
((0 : Int) ≤ x2) ∧
(x2 < (Sl.len s0)) ∧
((Ranged (Sl.sub s0 x2 1) [some .u16]) →
((Ranged (Sl.sub s0 x2 3) [some .u16]) →
(p_fValid (decide (Sl.bool s0 x2 0 = true)) (Sl.sub s0 x2 1) (decide (Sl.bool s0 x2 2 = true)) (Sl.sub s0 x2 3)) ∧
(∀ b3 : Bool,
((q_fValid (decide (Sl.bool s0 x2 0 = true)) (Sl.sub s0 x2 1) (decide (Sl.bool s0 x2 2 = true)) (Sl.sub s0 x2 3) (decide (b3 = true))) →
(((¬ (b3 = true)) →
(q_fAllValid s0 (decide (¬ (x2 ≥ 0)))) ∧ True) ∧
(¬ (¬ (b3 = true)) →
(Rng .i64 (x2 + 1)) ∧
(J1 (x2 + 1) ∧ M1 (x2 + 1) < M1 x2)))))))) ∧
(¬ (x2 < (Sl.len s0)) →
(q_fAllValid s0 (decide (¬ (((-1) : Int) ≥ 0)))) ∧ True))))))))))
def V_fFromInt : Prop :=
(∀ x0 : Int,
((Rng .i64 x0) →
((p_fFromInt x0) →
(p_wFromInt x0) ∧
(∀ b1 : Bool,
(∀ s2 : Sl,
((Ranged s2 [some .u16]) →
((q_wFromInt x0 (decide (b1 = true)) s2) →
(p_wFromInt 1) ∧
(∀ b3 : Bool,
(∀ s4 : Sl,
((Ranged s4 [some .u16]) →
((q_wFromInt 1 (decide (b3 = true)) s4) →
(q_fFromInt x0 (decide (b1 = true)) s2 (decide (b3 = true)) s4) ∧ True)))))))))))
def V_fSame : Prop :=
(∀ b0 : Bool,
(∀ s1 : Sl,
((Ranged s1 [some .u16]) →
(∀ b2 : Bool,
(∀ s3 : Sl,
((Ranged s3 [some .u16]) →
(∀ b4 : Bool,
(∀ s5 : Sl,
((Ranged s5 [some .u16]) →
(∀ b6 : Bool,
(∀ s7 : Sl,
((Ranged s7 [some .u16]) →
((p_fSame (decide (b0 = true)) s1 (decide (b2 = true)) s3 (decide (b4 = true)) s5 (decide (b6 = true)) s7) →
(p_wSame (decide (b0 = true)) s1 (decide (b4 = true)) s5) ∧
(∀ b8 : Bool,
((q_wSame (decide (b0 = true)) s1 (decide (b4 = true)) s5 (decide (b8 = true))) →
(((b8 = true) →
(p_wSame (decide (b2 = true)) s3 (decide (b6 = true)) s7) ∧
(∀ b9 : Bool,
((q_wSame (decide (b2 = true)) s3 (decide (b6 = true)) s7 (decide (b9 = true))) →
(q_fSame (decide (b0 = true)) s1 (decide (b2 = true)) s3 (decide (b4 = true)) s5 (decide (b6 = true)) s7 (decide (b9 = true))) ∧ True))) ∧
(¬ (b8 = true) →
(q_fSame (decide (b0 = true)) s1 (decide (b2 = true)) s3 (decide (b4 = true)) s5 (decide (b6 = true)) s7 (decide False)) ∧ True)))))))))))))))))
def V_fAdd : Prop :=
(∀ b0 : Bool,
(∀ s1 : Sl,
((Ranged s1 [some .u16]) →
(∀ b2 : Bool,
(∀ s3 : Sl,
((Ranged s3 [some .u16]) →
(∀ b4 : Bool,
(∀ s5 : Sl,
((Ranged s5 [some .u16]) →
(∀ b6 : Bool,
(∀ s7 : Sl,
((Ranged s7 [some .u16]) →
((p_fAdd (decide (b0 = true)) s1 (decide (b2 = true)) s3 (decide (b4 = true)) s5 (decide (b6 = true)) s7) →
(p_fAllValid (Sl.lit [[(.bool (decide (b0 = true))), (Sl.d s1), (.bool (decide (b2 = true))), (Sl.d s3)], [(.bool (decide (b4 = true))), (Sl.d s5), (.bool (decide (b6 = true))), (Sl.d s7)]])) ∧
(∀ b8 : Bool,
((q_fAllValid (Sl.lit [[(.bool (decide (b0 = true))), (Sl.d s1), (.bool (decide (b2 = true))), (Sl.d s3)], [(.bool (decide (b4 = true))), (Sl.d s5), (.bool (decide (b6 = true))), (Sl.d s7)]]) (decide (b8 = true))) →
(((¬ (b8 = true)) →
(q_fAdd (decide (b0 = true)) s1 (decide (b2 = true)) s3 (decide (b4 = true)) s5 (decide (b6 = true)) s7 (decide False) Sl.nil (decide False) Sl.nil 2) ∧ True) ∧
(¬ (¬ (b8 = true)) →
(p_fTimes (decide (b0 = true)) s1 (decide (b6 = true)) s7) ∧
(∀ b9 : Bool,
(∀ s10 : Sl,
((Ranged s10 [some .u16]) →
((q_fTimes (decide (b0 = true)) s1 (decide (b6 = true)) s7 (decide (b9 = true)) s10) →
(p_fTimes (decide (b4 = true)) s5 (decide (b2 = true)) s3) ∧
(∀ b11 : Bool,
(∀ s12 : Sl,
((Ranged s12 [some .u16]) →
((q_fTimes (decide (b4 = true)) s5 (decide (b2 = true)) s3 (decide (b11 = true)) s12) →
(p_fPlus (decide (b9 = true)) s10 (decide (b11 = true)) s12) ∧
(∀ b13 : Bool,
(∀ s14 : Sl,
((Ranged s14 [some .u16]) →
((q_fPlus (decide (b9 = true)) s10 (decide (b11 = true)) s12 (decide (b13 = true)) s14) →
(p_fTimes (decide (b2 = true)) s3 (decide (b6 = true)) s7) ∧
(∀ b15 : Bool,
(∀ s16 : Sl,
((Ranged s16 [some .u16]) →
((q_fTimes (decide (b2 = true)) s3 (decide (b6 = true)) s7 (decide (b15 = true)) s16) →
(p_lowest (decide (b13 = true)) s14 (decide (b15 = true)) s16) ∧
(∀ b17 : Bool,
(∀ s18 : Sl,
((Ranged s18 [some .u16]) →
(∀ b19 : Bool,
(∀ s20 : Sl,
((Ranged s20 [some .u16]) →
((q_lowest (decide (b13 = true)) s14 (decide (b15 = true)) s16 (decide (b17 = true)) s18 (decide (b19 = true)) s20) →
((Small s18) →
((((Sl.len s18) > 256) →
(q_fAdd (decide (b0 = true)) s1 (decide (b2 = true)) s3 (decide (b4 = true)) s5 (decide (b6 = true)) s7 (decide False) Sl.nil (decide False) Sl.nil 3) ∧ True) ∧
(¬ ((Sl.len s18) > 256) →
((Small s20) →
((((Sl.len s20) > 256) →
(q_fAdd (decide (b0 = true)) s1 (decide (b2 = true)) s3 (decide (b4 = true)) s5 (decide (b6 = true)) s7 (decide False) Sl.nil (decide False) Sl.nil 3) ∧ True) ∧
(¬ ((Sl.len s20) > 256) →
(q_fAdd (decide (b0 = true)) s1 (decide (b2 = true)) s3 (decide (b4 = true)) s5 (decide (b6 = true)) s7 (decide (b17 = true)) s18 (decide (b19 = true)) s20 0) ∧ True))))))))))))))))))))))))))))))))))))))))))))))
def V_fMul : Prop :=
(∀ b0 : Bool,
(∀ s1 : Sl,
((Ranged s1 [some .u16]) →
(∀ b2 : Bool,
(∀ s3 : Sl,
((Ranged s3 [some .u16]) →
(∀ b4 : Bool,
(∀ s5 : Sl,
((Ranged s5 [some .u16]) →
(∀ b6 : Bool,
(∀ s7 : Sl,
((Ranged s7 [some .u16]) →
((p_fMul (decide (b0 = true)) s1 (decide (b2 = true)) s3 (decide (b4 = true)) s5 (decide (b6 = true)) s7) →
(p_fAllValid (Sl.lit [[(.bool (decide (b0 = true))), (Sl.d s1), (.bool (decide (b2 = true))), (Sl.d s3)], [(.bool (decide (b4 = true))), (Sl.d s5), (.bool (decide (b6 = true))), (Sl.d s7)]])) ∧
(∀ b8 : Bool,
((q_fAllValid (Sl.lit [[(.bool (decide (b0 = true))), (Sl.d s1), (.bool (decide (b2 = true))), (Sl.d s3)], [(.bool (decide (b4 = true))), (Sl.d s5), (.bool (decide (b6 = true))), (Sl.d s7)]]) (decide (b8 = true))) →
(((¬ (b8 = true)) →
(q_fMul (decide (b0 = true)) s1 (decide (b2 = true)) s3 (decide (b4 = true)) s5 (decide (b6 = true)) s7 (decide False) Sl.nil (decide False) Sl.nil 2) ∧ True) ∧
(¬ (¬ (b8 = true)) →
(p_fTimes (decide (b0 = true)) s1 (decide (b4 = true)) s5) ∧
(∀ b9 : Bool,
(∀ s10 : Sl,
((Ranged s10 [some .u16]) →
((q_fTimes (decide (b0 = true)) s1 (decide (b4 = true)) s5 (decide (b9 = true)) s10) →
(p_fTimes (decide (b2 = true)) s3 (decide (b6 = true)) s7) ∧
(∀ b11 : Bool,
(∀ s12 : Sl,
((Ranged s12 [some .u16]) →
((q_fTimes (decide (b2 = true)) s3 (decide (b6 = true)) s7 (decide (b11 = true)) s12) →
(p_lowest (decide (b9 = true)) s10 (decide (b11 = true)) s12) ∧
(∀ b13 : Bool,
(∀ s14 : Sl,
((Ranged s14 [some .u16]) →
(∀ b15 : Bool,
(∀ s16 : Sl,
((Ranged s16 [some .u16]) →
((q_lowest (decide (b9 = true)) s10 (decide (b11 = true)) s12 (decide (b13 = true)) s14 (decide (b15 = true)) s16) →
((Small s14) →
((((Sl.len s14) > 256) →
(q_fMul (decide (b0 = true)) s1 (decide (b2 = true)) s3 (decide (b4 = true)) s5 (decide (b6 = true)) s7 (decide False) Sl.nil (decide False) Sl.nil 3) ∧ True) ∧
(¬ ((Sl.len s14) > 256) →
((Small s16) →
((((Sl.len s16) > 256) →
(q_fMul (decide (b0 = true)) s1 (decide (b2 = true)) s3 (decide (b4 = true)) s5 (decide (b6 = true)) s7 (decide False) Sl.nil (decide False) Sl.nil 3) ∧ True) ∧
(¬ ((Sl.len s16) > 256) →
(q_fMul (decide (b0 = true)) s1 (decide (b2 = true)) s3 (decide (b4 = true)) s5 (decide (b6 = true)) s7 (decide (b13 = true)) s14 (decide (b15 = true)) s16 0) ∧ True))))))))))))))))))))))))))))))))))))))
def V_fDiv : Prop :=
(∀ b0 : Bool,
(∀ s1 : Sl,
((Ranged s1 [some .u16]) →
(∀ b2 : Bool,
(∀ s3 : Sl,
((Ranged s3 [some .u16]) →
(∀ b4 : Bool,
(∀ s5 : Sl,
((Ranged s5 [some .u16]) →
(∀ b6 : Bool,
(∀ s7 : Sl,
((Ranged s7 [some .u16]) →
((p_fDiv (decide (b0 = true)) s1 (decide (b2 = true)) s3 (decide (b4 = true)) s5 (decide (b6 = true)) s7) →
(p_fAllValid (Sl.lit [[(.bool (decide (b0 = true))), (Sl.d s1), (.bool (decide (b2 = true))), (Sl.d s3)], [(.bool (decide (b4 = true))), (Sl.d s5), (.bool (decide (b6 = true))), (Sl.d s7)]])) ∧
(∀ b8 : Bool,
((q_fAllValid (Sl.lit [[(.bool (decide (b0 = true))), (Sl.d s1), (.bool (decide (b2 = true))), (Sl.d s3)], [(.bool (decide (b4 = true))), (Sl.d s5), (.bool (decide (b6 = true))), (Sl.d s7)]]) (decide (b8 = true))) →
(((¬ (b8 = true)) →
(q_fDiv (decide (b0 = true)) s1 (decide (b2 = true)) s3 (decide (b4 = true)) s5 (decide (b6 = true)) s7 (decide False) Sl.nil (decide False) Sl.nil 2) ∧ True) ∧
(¬ (¬ (b8 = true)) →
((Small s5) →
((((Sl.len s5) = 0) →
(q_fDiv (decide (b0 = true)) s1 (decide (b2 = true)) s3 (decide (b4 = true)) s5 (decide (b6 = true)) s7 (decide False) Sl.nil (decide False) Sl.nil 20) ∧ True) ∧
(¬ ((Sl.len s5) = 0) →
(p_fTimes (decide (b0 = true)) s1 (decide (b6 = true)) s7) ∧
(∀ b9 : Bool,
(∀ s10 : Sl,
((Ranged s10 [some .u16]) →
((q_fTimes (decide (b0 = true)) s1 (decide (b6 = true)) s7 (decide (b9 = true)) s10) →
(p_fTimes (decide (b2 = true)) s3 (decide (b4 = true)) s5) ∧
(∀ b11 : Bool,
(∀ s12 : Sl,
((Ranged s12 [some .u16]) →
((q_fTimes (decide (b2 = true)) s3 (decide (b4 = true)) s5 (decide (b11 = true)) s12) →
(p_lowest (decide (b9 = true)) s10 (decide (b11 = true)) s12) ∧
(∀ b13 : Bool,
(∀ s14 : Sl,
((Ranged s14 [some .u16]) →
(∀ b15 : Bool,
(∀ s16 : Sl,
((Ranged s16 [some .u16]) →
((q_lowest (decide (b9 = true)) s10 (decide (b11 = true)) s12 (decide (b13 = true)) s14 (decide (b15 = true)) s16) →
((Small s14) →
((((Sl.len s14) > 256) →
(q_fDiv (decide (b0 = true)) s1 (decide (b2 = true)) s3 (decide (b4 = true)) s5 (decide (b6 = true)) s7 (decide False) Sl.nil (decide False) Sl.nil 3) ∧ True) ∧
(¬ ((Sl.len s14) > 256) →
((Small s16) →
((((Sl.len s16) > 256) →
(q_fDiv (decide (b0 = true)) s1 (decide (b2 = true)) s3 (decide (b4 = true)) s5 (decide (b6 = true)) s7 (decide False) Sl.nil (decide False) Sl.nil 3) ∧ True) ∧
(¬ ((Sl.len s16) > 256) →
(q_fDiv (decide (b0 = true)) s1 (decide (b2 = true)) s3 (decide (b4 = true)) s5 (decide (b6 = true)) s7 (decide (b13 = true)) s14 (decide (b15 = true)) s16 0) ∧ True)))))))))))))))))))))))))))))))))))))))))
def V_fCmp : Prop :=
(∀ b0 : Bool,
(∀ s1 : Sl,
((Ranged s1 [some .u16]) →
(∀ b2 : Bool,
(∀ s3 : Sl,
((Ranged s3 [some .u16]) →
(∀ b4 : Bool,
(∀ s5 : Sl,
((Ranged s5 [some .u16]) →
(∀ b6 : Bool,
(∀ s7 : Sl,
((Ranged s7 [some .u16]) →
((p_fCmp (decide (b0 = true)) s1 (decide (b2 = true)) s3 (decide (b4 = true)) s5 (decide (b6 = true)) s7) →
(p_fAllValid (Sl.lit [[(.bool (decide (b0 = true))), (Sl.d s1), (.bool (decide (b2 = true))), (Sl.d s3)], [(.bool (decide (b4 = true))), (Sl.d s5), (.bool (decide (b6 = true))), (Sl.d s7)]])) ∧
(∀ b8 : Bool,
((q_fAllValid (Sl.lit [[(.bool (decide (b0 = true))), (Sl.d s1), (.bool (decide (b2 = true))), (Sl.d s3)], [(.bool (decide (b4 = true))), (Sl.d s5), (.bool (decide (b6 = true))), (Sl.d s7)]]) (decide (b8 = true))) →
(((¬ (b8 = true)) →
(q_fCmp (decide (b0 = true)) s1 (decide (b2 = true)) s3 (decide (b4 = true)) s5 (decide (b6 = true)) s7 0) ∧ True) ∧
(¬ (¬ (b8 = true)) →
(p_fTimes (decide (b0 = true)) s1 (decide (b6 = true)) s7) ∧
(∀ b9 : Bool,
(∀ s10 : Sl,
((Ranged s10 [some .u16]) →
((q_fTimes (decide (b0 = true)) s1 (decide (b6 = true)) s7 (decide (b9 = true)) s10) →
(p_fTimes (decide (b4 = true)) s5 (decide (b2 = true)) s3) ∧
(∀ b11 : Bool,
(∀ s12 : Sl,
((Ranged s12 [some .u16]) →
((q_fTimes (decide (b4 = true)) s5 (decide (b2 = true)) s3 (decide (b11 = true)) s12) →
(p_wCmp (decide (b9 = true)) s10 (decide (b11 = true)) s12) ∧
(∀ x13 : Int,
((Rng .i64 x13) →
((q_wCmp (decide (b9 = true)) s10 (decide (b11 = true)) s12 x13) →
(q_fCmp (decide (b0 = true)) s1 (decide (b2 = true)) s3 (decide (b4 = true)) s5 (decide (b6 = true)) s7 x13) ∧ True))))))))))))))))))))))))))))
def V_fFloor : Prop :=
(∀ b0 : Bool,
(∀ s1 : Sl,
((Ranged s1 [some .u16]) →
(∀ b2 : Bool,
(∀ s3 : Sl,
((Ranged s3 [some .u16]) →
((p_fFloor (decide (b0 = true)) s1 (decide (b2 = true)) s3) →
(p_fValid (decide (b0 = true)) s1 (decide (b2 = true)) s3) ∧
(∀ b4 : Bool,
((q_fValid (decide (b0 = true)) s1 (decide (b2 = true)) s3 (decide (b4 = true))) →
(((¬ (b4 = true)) →
(q_fFloor (decide (b0 = true)) s1 (decide (b2 = true)) s3 (decide False) Sl.nil 2) ∧ True) ∧
(¬ (¬ (b4 = true)) →
(p_fDivide (decide (b0 = true)) s1 (decide (b2 = true)) s3) ∧
(∀ b5 : Bool,
(∀ s6 : Sl,
((Ranged s6 [some .u16]) →
(∀ b7 : Bool,
(∀ s8 : Sl,
((Ranged s8 [some .u16]) →
((q_fDivide (decide (b0 = true)) s1 (decide (b2 = true)) s3 (decide (b5 = true)) s6 (decide (b7 = true)) s8) →
(q_fFloor (decide (b0 = true)) s1 (decide (b2 = true)) s3 (decide (b5 = true)) s6 0) ∧ True))))))))))))))))))
def V_fInt : Prop :=
(∀ b0 : Bool,
(∀ s1 : Sl,
((Ranged s1 [some .u16]) →
(∀ b2 : Bool,
(∀ s3 : Sl,
((Ranged s3 [some .u16]) →
((p_fInt (decide (b0 = true)) s1 (decide (b2 = true)) s3) →
(p_fValid (decide (b0 = true)) s1 (decide (b2 = true)) s3) ∧
(∀ b4 : Bool,
((q_fValid (decide (b0 = true)) s1 (decide (b2 = true)) s3 (decide (b4 = true))) →
(((¬ (b4 = true)) →
(q_fInt (decide (b0 = true)) s1 (decide (b2 = true)) s3 0 2) ∧ True) ∧
(¬ (¬ (b4 = true)) →
(((¬ (b2 = true)) →
((Small s3) →
((((Sl.len s3) = 1) →
((0 : Int) ≤ 0) ∧
((0 : Int) < (Sl.len s3)) ∧
((Rng .u16 (Sl.int s3 0 0)) →
(((¬ ((Sl.int s3 0 0) = 1)) →
(q_fInt (decide (b0 = true)) s1 (decide (b2 = true)) s3 0 22) ∧ True) ∧
(¬ (¬ ((Sl.int s3 0 0) = 1)) →
(p_wInt (decide (b0 = true)) s1) ∧
(∀ x5 : Int,
((Rng .i64 x5) →
(∀ x6 : Int,
((Rng .i64 x6) →
((q_wInt (decide (b0 = true)) s1 x5 x6) →
(q_fInt (decide (b0 = true)) s1 (decide (b2 = true)) s3 x5 x6) ∧ True))))))))) ∧
(¬ ((Sl.len s3) = 1) →
(q_fInt (decide (b0 = true)) s1 (decide (b2 = true)) s3 0 22) ∧ True)))) ∧
(¬ (¬ (b2 = true)) →
(q_fInt (decide (b0 = true)) s1 (decide (b2 = true)) s3 0 22) ∧ True)))))))))))))
def V_fRound_0 (b14 : Bool) (s15 : Sl) (J18 : Bool → Sl → Prop) : Prop :=
(p_wFromInt 1) ∧
(∀ b200 : Bool,
(∀ s201 : Sl,
((Ranged s201 [some .u16]) →
((q_wFromInt 1 (decide (b200 = true)) s201) →
(p_fPlus (decide (b14 = true)) s15 (decide (b200 = true)) s201) ∧
(∀ b202 : Bool,
(∀ s203 : Sl,
((Ranged s203 [some .u16]) →
((q_fPlus (decide (b14 = true)) s15 (decide (b200 = true)) s201 (decide (b202 = true)) s203) → J18 (decide (b202 = true)) s203))))))))
def V_fRound_1 (b14 : Bool) (s15 : Sl) (J18 : Bool → Sl → Prop) (J22 : Bool → Prop) : Prop :=
(∀ b100 : Bool,
(J22 (decide (b100 = true)) →
(((b100 = true) →
(((V_fRound_0 b14 s15 J18)) ∧
((V_fRound_0 b14 s15 J18)))) ∧
(¬ (b100 = true) → J18 (decide (b14 = true)) s15))))
def V_fRound : Prop :=
(∀ b0 : Bool,
(∀ s1 : Sl,
((Ranged s1 [some .u16]) →
(∀ b2 : Bool,
(∀ s3 : Sl,
((Ranged s3 [some .u16]) →
(∀ b4 : Bool,
(∀ s5 : Sl,
((Ranged s5 [some .u16]) →
(∀ b6 : Bool,
(∀ s7 : Sl,
((Ranged s7 [some .u16]) →
(∀ x8 : Int,
((Rng .u8 x8) →
((p_fRound (decide (b0 = true)) s1 (decide (b2 = true)) s3 (decide (b4 = true)) s5 (decide (b6 = true)) s7 x8) →
(p_fAllValid (Sl.lit [[(.bool (decide (b0 = true))), (Sl.d s1), (.bool (decide (b2 = true))), (Sl.d s3)], [(.bool (decide (b4 = true))), (Sl.d s5), (.bool (decide (b6 = true))), (Sl.d s7)]])) ∧
(∀ b9 : Bool,
((q_fAllValid (Sl.lit [[(.bool (decide (b0 = true))), (Sl.d s1), (.bool (decide (b2 = true))), (Sl.d s3)], [(.bool (decide (b4 = true))), (Sl.d s5), (.bool (decide (b6 = true))), (Sl.d s7)]]) (decide (b9 = true))) →
(((¬ (b9 = true)) →
(q_fRound (decide (b0 = true)) s1 (decide (b2 = true)) s3 (decide (b4 = true)) s5 (decide (b6 = true)) s7 x8 (decide False) Sl.nil (decide False) Sl.nil 2) ∧ True) ∧
(¬ (¬ (b9 = true)) →
(((x8 < 1) →
(q_fRound (decide (b0 = true)) s1 (decide (b2 = true)) s3 (decide (b4 = true)) s5 (decide (b6 = true)) s7 x8 (decide False) Sl.nil (decide False) Sl.nil 2) ∧ True) ∧
(¬ (x8 < 1) →
(((x8 > 6) →
(q_fRound (decide (b0 = true)) s1 (decide (b2 = true)) s3 (decide (b4 = true)) s5 (decide (b6 = true)) s7 x8 (decide False) Sl.nil (decide False) Sl.nil 2) ∧ True) ∧
(¬ (x8 > 6) →
((Small s5) →
((((Sl.len s5) = 0) →
(q_fRound (decide (b0 = true)) s1 (decide (b2 = true)) s3 (decide (b4 = true)) s5 (decide (b6 = true)) s7 x8 (decide False) Sl.nil (decide False) Sl.nil 20) ∧ True) ∧
(¬ ((Sl.len s5) = 0) →
(((b4 = true) →
(q_fRound (decide (b0 = true)) s1 (decide (b2 = true)) s3 (decide (b4 = true)) s5 (decide (b6 = true)) s7 x8 (decide False) Sl.nil (decide False) Sl.nil 20) ∧ True) ∧
(¬ (b4 = true) →
(p_fTimes (decide (b2 = true)) s3 (decide (b4 = true)) s5) ∧
(∀ b10 : Bool,
(∀ s11 : Sl,
((Ranged s11 [some .u16]) →
((q_fTimes (decide (b2 = true)) s3 (decide (b4 = true)) s5 (decide (b10 = true)) s11) →
(p_fTimes (decide (b0 = true)) s1 (decide (b6 = true)) s7) ∧
(∀ b12 : Bool,
(∀ s13 : Sl,
((Ranged s13 [some .u16]) →
((q_fTimes (decide (b0 = true)) s1 (decide (b6 = true)) s7 (decide (b12 = true)) s13) →
(p_fDivide (decide (b12 = true)) s13 (decide (b10 = true)) s11) ∧
(∀ b14 : Bool,
(∀ s15 : Sl,
((Ranged s15 [some .u16]) →
(∀ b16 : Bool,
(∀ s17 : Sl,
((Ranged s17 [some .u16]) →
((q_fDivide (decide (b12 = true)) s13 (decide (b10 = true)) s11 (decide (b14 = true)) s15 (decide (b16 = true)) s17) →
(∃ J18 : Bool → Sl → Prop,
((((Small s17) →
((((Sl.len s17) > 0) →
((Small s15) →
((((Sl.len s15) > 0) →
((0 : Int) ≤ 0) ∧
((0 : Int) < (Sl.len s15)) ∧
((Rng .u16 (Sl.int s15 0 0)) →
((2 : Int) ≠ 0) ∧
(Rng .u16 (Int.tmod (Sl.int s15 0 0) 2)) ∧
(p_fPlus (decide (b16 = true)) s17 (decide (b16 = true)) s17) ∧
(∀ b19 : Bool,
(∀ s20 : Sl,
((Ranged s20 [some .u16]) →
((q_fPlus (decide (b16 = true)) s17 (decide (b16 = true)) s17 (decide (b19 = true)) s20) →
(p_wCmp (decide (b19 = true)) s20 (decide (b10 = true)) s11) ∧
(∀ x21 : Int,
((Rng .i64 x21) →
((q_wCmp (decide (b19 = true)) s20 (decide (b10 = true)) s11 x21) →
(∃ J22 : Bool → Prop,
((((0 : Int) ≤ (IntKind.wrap .u8 (x8 - 1))) ∧
((IntKind.wrap .u8 (x8 - 1)) < 6) ∧
((((IntKind.wrap .u8 (x8 - 1)) = 0) → J22 (decide (b0 = true))) ∧
(¬ ((IntKind.wrap .u8 (x8 - 1)) = 0) →
((((IntKind.wrap .u8 (x8 - 1)) = 1) → J22 (decide (¬ (b0 = true)))) ∧
(¬ ((IntKind.wrap .u8 (x8 - 1)) = 1) →
((((IntKind.wrap .u8 (x8 - 1)) = 2) → J22 (decide False)) ∧
(¬ ((IntKind.wrap .u8 (x8 - 1)) = 2) →
((((IntKind.wrap .u8 (x8 - 1)) = 3) → J22 (decide True)) ∧
(¬ ((IntKind.wrap .u8 (x8 - 1)) = 3) →
((((IntKind.wrap .u8 (x8 - 1)) = 4) →
(((x21 > 0) → J22 (decide True)) ∧
(¬ (x21 > 0) →
(((x21 = 0) → J22 (decide (¬ (b0 = true)))) ∧
(¬ (x21 = 0) → J22 (decide False)))))) ∧
(¬ ((IntKind.wrap .u8 (x8 - 1)) = 4) →
(((x21 > 0) → J22 (decide True)) ∧
(¬ (x21 > 0) →
(((x21 = 0) → J22 (decide ((Int.tmod (Sl.int s15 0 0) 2) = 1))) ∧
(¬ (x21 = 0) → J22 (decide False)))))))))))))))) ∧
((V_fRound_1 b14 s15 J18 J22))))))))))))) ∧
(¬ ((Sl.len s15) > 0) →
(p_fPlus (decide (b16 = true)) s17 (decide (b16 = true)) s17) ∧
(∀ b19 : Bool,
(∀ s20 : Sl,
((Ranged s20 [some .u16]) →
((q_fPlus (decide (b16 = true)) s17 (decide (b16 = true)) s17 (decide (b19 = true)) s20) →
(p_wCmp (decide (b19 = true)) s20 (decide (b10 = true)) s11) ∧
(∀ x21 : Int,
((Rng .i64 x21) →
((q_wCmp (decide (b19 = true)) s20 (decide (b10 = true)) s11 x21) →
(∃ J22 : Bool → Prop,
((((0 : Int) ≤ (IntKind.wrap .u8 (x8 - 1))) ∧
((IntKind.wrap .u8 (x8 - 1)) < 6) ∧
((((IntKind.wrap .u8 (x8 - 1)) = 0) → J22 (decide (b0 = true))) ∧
(¬ ((IntKind.wrap .u8 (x8 - 1)) = 0) →
((((IntKind.wrap .u8 (x8 - 1)) = 1) → J22 (decide (¬ (b0 = true)))) ∧
(¬ ((IntKind.wrap .u8 (x8 - 1)) = 1) →
((((IntKind.wrap .u8 (x8 - 1)) = 2) → J22 (decide False)) ∧
(¬ ((IntKind.wrap .u8 (x8 - 1)) = 2) →
((((IntKind.wrap .u8 (x8 - 1)) = 3) → J22 (decide True)) ∧
(¬ ((IntKind.wrap .u8 (x8 - 1)) = 3) →
((((IntKind.wrap .u8 (x8 - 1)) = 4) →
(((x21 > 0) → J22 (decide True)) ∧
(¬ (x21 > 0) →
(((x21 = 0) → J22 (decide (¬ (b0 = true)))) ∧
(¬ (x21 = 0) → J22 (decide False)))))) ∧
(¬ ((IntKind.wrap .u8 (x8 - 1)) = 4) →
(((x21 > 0) → J22 (decide True)) ∧
(¬ (x21 > 0) →
(((x21 = 0) → J22 (decide False)) ∧
(¬ (x21 = 0) → J22 (decide False)))))))))))))))) ∧
((V_fRound_1 b14 s15 J18 J22))))))))))))))) ∧
(¬ ((Sl.len s17) > 0) → J18 (decide (b14 = true)) s15)))) ∧
((∀ b19 : Bool,
(∀ s20 : Sl,
((Ranged s20 [some .u16]) →
(J18 (decide (b19 = true)) s20 →
(p_fTimes (decide (b19 = true)) s20 (decide (b4 = true)) s5) ∧
(∀ b21 : Bool,
(∀ s22 : Sl,
((Ranged s22 [some .u16]) →
((q_fTimes (decide (b19 = true)) s20 (decide (b4 = true)) s5 (decide (b21 = true)) s22) →
(p_lowest (decide (b21 = true)) s22 (decide (b6 = true)) s7) ∧
(∀ b23 : Bool,
(∀ s24 : Sl,
((Ranged s24 [some .u16]) →
(∀ b25 : Bool,
(∀ s26 : Sl,
((Ranged s26 [some .u16]) →
((q_lowest (decide (b21 = true)) s22 (decide (b6 = true)) s7 (decide (b23 = true)) s24 (decide (b25 = true)) s26) →
((Small s24) →
((((Sl.len s24) > 256) →
(q_fRound (decide (b0 = true)) s1 (decide (b2 = true)) s3 (decide (b4 = true)) s5 (decide (b6 = true)) s7 x8 (decide False) Sl.nil (decide False) Sl.nil 3) ∧ True) ∧
(¬ ((Sl.len s24) > 256) →
((Small s26) →
((((Sl.len s26) > 256) →
(q_fRound (decide (b0 = true)) s1 (decide (b2 = true)) s3 (decide (b4 = true)) s5 (decide (b6 = true)) s7 x8 (decide False) Sl.nil (decide False) Sl.nil 3) ∧ True) ∧
(¬ ((Sl.len s26) > 256) →
(q_fRound (decide (b0 = true)) s1 (decide (b2 = true)) s3 (decide (b4 = true)) s5 (decide (b6 = true)) s7 x8 (decide (b23 = true)) s24 (decide (b25 = true)) s26 0) ∧ True)))))))))))))))))))))))))))))))))))))))))))))))))))))))))))))))))))
end Go.Sx.N
