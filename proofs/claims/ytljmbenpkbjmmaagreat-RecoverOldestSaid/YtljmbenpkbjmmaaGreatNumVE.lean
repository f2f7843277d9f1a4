/-
  The conditions of the functions. Conditions: none; printed by a program of our own.
-/
import Derived.Test.YtljmbenpkbjmmaaGreatNumBase
set_option maxRecDepth 20000
namespace Go.Sx.N
def V_rOne : Prop :=
(∀ s0 : Sl,
((Ranged s0 [some .u16]) →
((p_rOne s0) →
((Small s0) →
((((Sl.len s0) = 1) →
((0 : Int) ≤ 0) ∧
((0 : Int) < (Sl.len s0)) ∧
((Rng .u16 (Sl.int s0 0 0)) →
(q_rOne s0 (decide ((Sl.int s0 0 0) = 1))) ∧ True)) ∧
(¬ ((Sl.len s0) = 1) →
(q_rOne s0 (decide False)) ∧ True))))))
def V_rFits : Prop :=
(∀ b0 : Bool,
(∀ s1 : Sl,
((Ranged s1 [some .u16]) →
(∀ b2 : Bool,
(∀ s3 : Sl,
((Ranged s3 [some .u16]) →
((p_rFits (decide (b0 = true)) s1 (decide (b2 = true)) s3) →
((Small s1) →
((((Sl.len s1) ≤ 256) →
((Small s3) →
(q_rFits (decide (b0 = true)) s1 (decide (b2 = true)) s3 (decide ((Sl.len s3) ≤ 256))) ∧ True)) ∧
(¬ ((Sl.len s1) ≤ 256) →
(q_rFits (decide (b0 = true)) s1 (decide (b2 = true)) s3 (decide False)) ∧ True))))))))))
def V_rLowest : Prop :=
(∀ b0 : Bool,
(∀ s1 : Sl,
((Ranged s1 [some .u16]) →
(∀ b2 : Bool,
(∀ s3 : Sl,
((Ranged s3 [some .u16]) →
((p_rLowest (decide (b0 = true)) s1 (decide (b2 = true)) s3) →
(p_rCommon s1 s3) ∧
(∀ s4 : Sl,
((Ranged s4 [some .u16]) →
((q_rCommon s1 s3 s4) →
(p_rOne s4) ∧
(∀ b5 : Bool,
((q_rOne s4 (decide (b5 = true))) →
(((b5 = true) →
(p_rMake (decide (¬ ((b0 = true) ↔ (b2 = true)))) s1) ∧
(∀ b6 : Bool,
(∀ s7 : Sl,
((Ranged s7 [some .u16]) →
((q_rMake (decide (¬ ((b0 = true) ↔ (b2 = true)))) s1 (decide (b6 = true)) s7) →
(p_rMake (decide False) s3) ∧
(∀ b8 : Bool,
(∀ s9 : Sl,
((Ranged s9 [some .u16]) →
((q_rMake (decide False) s3 (decide (b8 = true)) s9) →
(q_rLowest (decide (b0 = true)) s1 (decide (b2 = true)) s3 (decide (b6 = true)) s7 (decide (b8 = true)) s9) ∧ True))))))))) ∧
(¬ (b5 = true) →
(p_rDivided s1 s4) ∧
(∀ s6 : Sl,
((Ranged s6 [some .u16]) →
(∀ s7 : Sl,
((Ranged s7 [some .u16]) →
((q_rDivided s1 s4 s6 s7) →
(p_rDivided s3 s4) ∧
(∀ s8 : Sl,
((Ranged s8 [some .u16]) →
(∀ s9 : Sl,
((Ranged s9 [some .u16]) →
((q_rDivided s3 s4 s8 s9) →
(p_rMake (decide (¬ ((b0 = true) ↔ (b2 = true)))) s6) ∧
(∀ b10 : Bool,
(∀ s11 : Sl,
((Ranged s11 [some .u16]) →
((q_rMake (decide (¬ ((b0 = true) ↔ (b2 = true)))) s6 (decide (b10 = true)) s11) →
(p_rMake (decide False) s8) ∧
(∀ b12 : Bool,
(∀ s13 : Sl,
((Ranged s13 [some .u16]) →
((q_rMake (decide False) s8 (decide (b12 = true)) s13) →
(q_rLowest (decide (b0 = true)) s1 (decide (b2 = true)) s3 (decide (b10 = true)) s11 (decide (b12 = true)) s13) ∧ True))))))))))))))))))))))))))))))))
def V_rValid2 : Prop :=
(∀ b0 : Bool,
(∀ s1 : Sl,
((Ranged s1 [some .u16]) →
(∀ b2 : Bool,
(∀ s3 : Sl,
((Ranged s3 [some .u16]) →
((p_rValid2 (decide (b0 = true)) s1 (decide (b2 = true)) s3) →
(p_rValid1 (decide (b0 = true)) s1) ∧
(∀ b4 : Bool,
((q_rValid1 (decide (b0 = true)) s1 (decide (b4 = true))) →
(((¬ (b4 = true)) →
(q_rValid2 (decide (b0 = true)) s1 (decide (b2 = true)) s3 (decide False)) ∧ True) ∧
(¬ (¬ (b4 = true)) →
(p_rValid1 (decide (b2 = true)) s3) ∧
(∀ b5 : Bool,
((q_rValid1 (decide (b2 = true)) s3 (decide (b5 = true))) →
(((¬ (b5 = true)) →
(q_rValid2 (decide (b0 = true)) s1 (decide (b2 = true)) s3 (decide False)) ∧ True) ∧
(¬ (¬ (b5 = true)) →
(p_rFits (decide (b0 = true)) s1 (decide (b2 = true)) s3) ∧
(∀ b6 : Bool,
((q_rFits (decide (b0 = true)) s1 (decide (b2 = true)) s3 (decide (b6 = true))) →
(((¬ (b6 = true)) →
(q_rValid2 (decide (b0 = true)) s1 (decide (b2 = true)) s3 (decide False)) ∧ True) ∧
(¬ (¬ (b6 = true)) →
(((b2 = true) →
(q_rValid2 (decide (b0 = true)) s1 (decide (b2 = true)) s3 (decide False)) ∧ True) ∧
(¬ (b2 = true) →
((Small s3) →
((((Sl.len s3) = 0) →
(q_rValid2 (decide (b0 = true)) s1 (decide (b2 = true)) s3 (decide False)) ∧ True) ∧
(¬ ((Sl.len s3) = 0) →
(p_rCommon s1 s3) ∧
(∀ s7 : Sl,
((Ranged s7 [some .u16]) →
((q_rCommon s1 s3 s7) →
(p_rOne s7) ∧
(∀ b8 : Bool,
((q_rOne s7 (decide (b8 = true))) →
(q_rValid2 (decide (b0 = true)) s1 (decide (b2 = true)) s3 (decide (b8 = true))) ∧ True)))))))))))))))))))))))))))))
def V_rFromInt2 : Prop :=
(∀ x0 : Int,
((Rng .i64 x0) →
((p_rFromInt2 x0) →
(p_rFromInt1 x0) ∧
(∀ b1 : Bool,
(∀ s2 : Sl,
((Ranged s2 [some .u16]) →
((q_rFromInt1 x0 (decide (b1 = true)) s2) →
(p_rFromInt1 1) ∧
(∀ b3 : Bool,
(∀ s4 : Sl,
((Ranged s4 [some .u16]) →
((q_rFromInt1 1 (decide (b3 = true)) s4) →
(q_rFromInt2 x0 (decide (b1 = true)) s2 (decide (b3 = true)) s4) ∧ True)))))))))))
def V_rQuick : Prop :=
(∀ x0 : Int,
((Rng .i64 x0) →
(∀ x1 : Int,
((Rng .i64 x1) →
((p_rQuick x0 x1) →
(p_rFromInt1 x0) ∧
(∀ b2 : Bool,
(∀ s3 : Sl,
((Ranged s3 [some .u16]) →
((q_rFromInt1 x0 (decide (b2 = true)) s3) →
(p_rFromInt1 x1) ∧
(∀ b4 : Bool,
(∀ s5 : Sl,
((Ranged s5 [some .u16]) →
((q_rFromInt1 x1 (decide (b4 = true)) s5) →
(p_rLowest (decide (b2 = true)) s3 (decide (b4 = true)) s5) ∧
(∀ b6 : Bool,
(∀ s7 : Sl,
((Ranged s7 [some .u16]) →
(∀ b8 : Bool,
(∀ s9 : Sl,
((Ranged s9 [some .u16]) →
((q_rLowest (decide (b2 = true)) s3 (decide (b4 = true)) s5 (decide (b6 = true)) s7 (decide (b8 = true)) s9) →
(q_rQuick x0 x1 (decide (b6 = true)) s7 (decide (b8 = true)) s9) ∧ True))))))))))))))))))))
def V_rPlus2 : Prop :=
(∀ b0 : Bool,
(∀ s1 : Sl,
((Ranged s1 [some .u16]) →
(∀ b2 : Bool,
(∀ s3 : Sl,
((Ranged s3 [some .u16]) →
(∀ b4 : Bool,
(∀ s5 : Sl,
((Ranged s5 [some .u16]) →
(∀ b6 : Bool,
(∀ s7 : Sl,
((Ranged s7 [some .u16]) →
((p_rPlus2 (decide (b0 = true)) s1 (decide (b2 = true)) s3 (decide (b4 = true)) s5 (decide (b6 = true)) s7) →
(((p_rProduct1 (decide (b0 = true)) s1 (decide (b6 = true)) s7) ∧
(∀ b8 : Bool,
(∀ s9 : Sl,
((Ranged s9 [some .u16]) →
((q_rProduct1 (decide (b0 = true)) s1 (decide (b6 = true)) s7 (decide (b8 = true)) s9) →
(((p_rProduct1 (decide (b4 = true)) s5 (decide (b2 = true)) s3) ∧
(∀ b10 : Bool,
(∀ s11 : Sl,
((Ranged s11 [some .u16]) →
((q_rProduct1 (decide (b4 = true)) s5 (decide (b2 = true)) s3 (decide (b10 = true)) s11) →
(((p_rSum1 (decide (b8 = true)) s9 (decide (b10 = true)) s11) ∧
(∀ b12 : Bool,
(∀ s13 : Sl,
((Ranged s13 [some .u16]) →
((q_rSum1 (decide (b8 = true)) s9 (decide (b10 = true)) s11 (decide (b12 = true)) s13) →
(p_rProduct1 (decide (b2 = true)) s3 (decide (b6 = true)) s7) ∧
(∀ b14 : Bool,
(∀ s15 : Sl,
((Ranged s15 [some .u16]) →
((q_rProduct1 (decide (b2 = true)) s3 (decide (b6 = true)) s7 (decide (b14 = true)) s15) →
(p_rLowest (decide (b12 = true)) s13 (decide (b14 = true)) s15) ∧
(∀ b16 : Bool,
(∀ s17 : Sl,
((Ranged s17 [some .u16]) →
(∀ b18 : Bool,
(∀ s19 : Sl,
((Ranged s19 [some .u16]) →
((q_rLowest (decide (b12 = true)) s13 (decide (b14 = true)) s15 (decide (b16 = true)) s17 (decide (b18 = true)) s19) →
(q_rPlus2 (decide (b0 = true)) s1 (decide (b2 = true)) s3 (decide (b4 = true)) s5 (decide (b6 = true)) s7 (decide (b16 = true)) s17 (decide (b18 = true)) s19) ∧ True)))))))))))))))) ∧
((p_rSum1 (decide (b8 = true)) s9 (decide (b10 = true)) s11) ∧
(∀ b12 : Bool,
(∀ s13 : Sl,
((Ranged s13 [some .u16]) →
((q_rSum1 (decide (b8 = true)) s9 (decide (b10 = true)) s11 (decide (b12 = true)) s13) →
(p_rProduct1 (decide (b2 = true)) s3 (decide (b6 = true)) s7) ∧
(∀ b14 : Bool,
(∀ s15 : Sl,
((Ranged s15 [some .u16]) →
((q_rProduct1 (decide (b2 = true)) s3 (decide (b6 = true)) s7 (decide (b14 = true)) s15) →
(p_rLowest (decide (b12 = true)) s13 (decide (b14 = true)) s15) ∧
(∀ b16 : Bool,
(∀ s17 : Sl,
((Ranged s17 [some .u16]) →
(∀ b18 : Bool,
(∀ s19 : Sl,
((Ranged s19 [some .u16]) →
((q_rLowest (decide (b12 = true)) s13 (decide (b14 = true)) s15 (decide (b16 = true)) s17 (decide (b18 = true)) s19) →
(q_rPlus2 (decide (b0 = true)) s1 (decide (b2 = true)) s3 (decide (b4 = true)) s5 (decide (b6 = true)) s7 (decide (b16 = true)) s17 (decide (b18 = true)) s19) ∧ True)))))))))))))))))))))) ∧
((p_rProduct1 (decide (b4 = true)) s5 (decide (b2 = true)) s3) ∧
(∀ b10 : Bool,
(∀ s11 : Sl,
((Ranged s11 [some .u16]) →
((q_rProduct1 (decide (b4 = true)) s5 (decide (b2 = true)) s3 (decide (b10 = true)) s11) →
(p_rSum1 (decide (b8 = true)) s9 (decide (b10 = true)) s11) ∧
(∀ b12 : Bool,
(∀ s13 : Sl,
((Ranged s13 [some .u16]) →
((q_rSum1 (decide (b8 = true)) s9 (decide (b10 = true)) s11 (decide (b12 = true)) s13) →
(p_rProduct1 (decide (b2 = true)) s3 (decide (b6 = true)) s7) ∧
(∀ b14 : Bool,
(∀ s15 : Sl,
((Ranged s15 [some .u16]) →
((q_rProduct1 (decide (b2 = true)) s3 (decide (b6 = true)) s7 (decide (b14 = true)) s15) →
(p_rLowest (decide (b12 = true)) s13 (decide (b14 = true)) s15) ∧
(∀ b16 : Bool,
(∀ s17 : Sl,
((Ranged s17 [some .u16]) →
(∀ b18 : Bool,
(∀ s19 : Sl,
((Ranged s19 [some .u16]) →
((q_rLowest (decide (b12 = true)) s13 (decide (b14 = true)) s15 (decide (b16 = true)) s17 (decide (b18 = true)) s19) →
(q_rPlus2 (decide (b0 = true)) s1 (decide (b2 = true)) s3 (decide (b4 = true)) s5 (decide (b6 = true)) s7 (decide (b16 = true)) s17 (decide (b18 = true)) s19) ∧ True)))))))))))))))))))))))))) ∧
((p_rProduct1 (decide (b0 = true)) s1 (decide (b6 = true)) s7) ∧
(∀ b8 : Bool,
(∀ s9 : Sl,
((Ranged s9 [some .u16]) →
((q_rProduct1 (decide (b0 = true)) s1 (decide (b6 = true)) s7 (decide (b8 = true)) s9) →
(p_rProduct1 (decide (b4 = true)) s5 (decide (b2 = true)) s3) ∧
(∀ b10 : Bool,
(∀ s11 : Sl,
((Ranged s11 [some .u16]) →
((q_rProduct1 (decide (b4 = true)) s5 (decide (b2 = true)) s3 (decide (b10 = true)) s11) →
(p_rSum1 (decide (b8 = true)) s9 (decide (b10 = true)) s11) ∧
(∀ b12 : Bool,
(∀ s13 : Sl,
((Ranged s13 [some .u16]) →
((q_rSum1 (decide (b8 = true)) s9 (decide (b10 = true)) s11 (decide (b12 = true)) s13) →
(p_rProduct1 (decide (b2 = true)) s3 (decide (b6 = true)) s7) ∧
(∀ b14 : Bool,
(∀ s15 : Sl,
((Ranged s15 [some .u16]) →
((q_rProduct1 (decide (b2 = true)) s3 (decide (b6 = true)) s7 (decide (b14 = true)) s15) →
(p_rLowest (decide (b12 = true)) s13 (decide (b14 = true)) s15) ∧
(∀ b16 : Bool,
(∀ s17 : Sl,
((Ranged s17 [some .u16]) →
(∀ b18 : Bool,
(∀ s19 : Sl,
((Ranged s19 [some .u16]) →
((q_rLowest (decide (b12 = true)) s13 (decide (b14 = true)) s15 (decide (b16 = true)) s17 (decide (b18 = true)) s19) →
(q_rPlus2 (decide (b0 = true)) s1 (decide (b2 = true)) s3 (decide (b4 = true)) s5 (decide (b6 = true)) s7 (decide (b16 = true)) s17 (decide (b18 = true)) s19) ∧ True))))))))))))))))))))))))))))))))))))))
def V_rMinus2 : Prop :=
(∀ b0 : Bool,
(∀ s1 : Sl,
((Ranged s1 [some .u16]) →
(∀ b2 : Bool,
(∀ s3 : Sl,
((Ranged s3 [some .u16]) →
(∀ b4 : Bool,
(∀ s5 : Sl,
((Ranged s5 [some .u16]) →
(∀ b6 : Bool,
(∀ s7 : Sl,
((Ranged s7 [some .u16]) →
((p_rMinus2 (decide (b0 = true)) s1 (decide (b2 = true)) s3 (decide (b4 = true)) s5 (decide (b6 = true)) s7) →
(p_rNeg1 (decide (b4 = true)) s5) ∧
(∀ b8 : Bool,
(∀ s9 : Sl,
((Ranged s9 [some .u16]) →
((q_rNeg1 (decide (b4 = true)) s5 (decide (b8 = true)) s9) →
(p_rPlus2 (decide (b0 = true)) s1 (decide (b2 = true)) s3 (decide (b8 = true)) s9 (decide (b6 = true)) s7) ∧
(∀ b10 : Bool,
(∀ s11 : Sl,
((Ranged s11 [some .u16]) →
(∀ b12 : Bool,
(∀ s13 : Sl,
((Ranged s13 [some .u16]) →
((q_rPlus2 (decide (b0 = true)) s1 (decide (b2 = true)) s3 (decide (b8 = true)) s9 (decide (b6 = true)) s7 (decide (b10 = true)) s11 (decide (b12 = true)) s13) →
(q_rMinus2 (decide (b0 = true)) s1 (decide (b2 = true)) s3 (decide (b4 = true)) s5 (decide (b6 = true)) s7 (decide (b10 = true)) s11 (decide (b12 = true)) s13) ∧ True))))))))))))))))))))))))
def V_rTimes2 : Prop :=
(∀ b0 : Bool,
(∀ s1 : Sl,
((Ranged s1 [some .u16]) →
(∀ b2 : Bool,
(∀ s3 : Sl,
((Ranged s3 [some .u16]) →
(∀ b4 : Bool,
(∀ s5 : Sl,
((Ranged s5 [some .u16]) →
(∀ b6 : Bool,
(∀ s7 : Sl,
((Ranged s7 [some .u16]) →
((p_rTimes2 (decide (b0 = true)) s1 (decide (b2 = true)) s3 (decide (b4 = true)) s5 (decide (b6 = true)) s7) →
(p_rProduct1 (decide (b0 = true)) s1 (decide (b4 = true)) s5) ∧
(∀ b8 : Bool,
(∀ s9 : Sl,
((Ranged s9 [some .u16]) →
((q_rProduct1 (decide (b0 = true)) s1 (decide (b4 = true)) s5 (decide (b8 = true)) s9) →
(p_rProduct1 (decide (b2 = true)) s3 (decide (b6 = true)) s7) ∧
(∀ b10 : Bool,
(∀ s11 : Sl,
((Ranged s11 [some .u16]) →
((q_rProduct1 (decide (b2 = true)) s3 (decide (b6 = true)) s7 (decide (b10 = true)) s11) →
(p_rLowest (decide (b8 = true)) s9 (decide (b10 = true)) s11) ∧
(∀ b12 : Bool,
(∀ s13 : Sl,
((Ranged s13 [some .u16]) →
(∀ b14 : Bool,
(∀ s15 : Sl,
((Ranged s15 [some .u16]) →
((q_rLowest (decide (b8 = true)) s9 (decide (b10 = true)) s11 (decide (b12 = true)) s13 (decide (b14 = true)) s15) →
(q_rTimes2 (decide (b0 = true)) s1 (decide (b2 = true)) s3 (decide (b4 = true)) s5 (decide (b6 = true)) s7 (decide (b12 = true)) s13 (decide (b14 = true)) s15) ∧ True))))))))))))))))))))))))))))
def V_rOrder2 : Prop :=
(∀ b0 : Bool,
(∀ s1 : Sl,
((Ranged s1 [some .u16]) →
(∀ b2 : Bool,
(∀ s3 : Sl,
((Ranged s3 [some .u16]) →
(∀ b4 : Bool,
(∀ s5 : Sl,
((Ranged s5 [some .u16]) →
(∀ b6 : Bool,
(∀ s7 : Sl,
((Ranged s7 [some .u16]) →
((p_rOrder2 (decide (b0 = true)) s1 (decide (b2 = true)) s3 (decide (b4 = true)) s5 (decide (b6 = true)) s7) →
(p_rProduct1 (decide (b0 = true)) s1 (decide (b6 = true)) s7) ∧
(∀ b8 : Bool,
(∀ s9 : Sl,
((Ranged s9 [some .u16]) →
((q_rProduct1 (decide (b0 = true)) s1 (decide (b6 = true)) s7 (decide (b8 = true)) s9) →
(p_rProduct1 (decide (b4 = true)) s5 (decide (b2 = true)) s3) ∧
(∀ b10 : Bool,
(∀ s11 : Sl,
((Ranged s11 [some .u16]) →
((q_rProduct1 (decide (b4 = true)) s5 (decide (b2 = true)) s3 (decide (b10 = true)) s11) →
(p_rOrder1 (decide (b8 = true)) s9 (decide (b10 = true)) s11) ∧
(∀ x12 : Int,
((Rng .i64 x12) →
((q_rOrder1 (decide (b8 = true)) s9 (decide (b10 = true)) s11 x12) →
(q_rOrder2 (decide (b0 = true)) s1 (decide (b2 = true)) s3 (decide (b4 = true)) s5 (decide (b6 = true)) s7 x12) ∧ True))))))))))))))))))))))))
def V_rCmp2 : Prop :=
(∀ b0 : Bool,
(∀ s1 : Sl,
((Ranged s1 [some .u16]) →
(∀ b2 : Bool,
(∀ s3 : Sl,
((Ranged s3 [some .u16]) →
(∀ b4 : Bool,
(∀ s5 : Sl,
((Ranged s5 [some .u16]) →
(∀ b6 : Bool,
(∀ s7 : Sl,
((Ranged s7 [some .u16]) →
((p_rCmp2 (decide (b0 = true)) s1 (decide (b2 = true)) s3 (decide (b4 = true)) s5 (decide (b6 = true)) s7) →
(p_rValid2 (decide (b0 = true)) s1 (decide (b2 = true)) s3) ∧
(∀ b8 : Bool,
((q_rValid2 (decide (b0 = true)) s1 (decide (b2 = true)) s3 (decide (b8 = true))) →
(((¬ (b8 = true)) →
(q_rCmp2 (decide (b0 = true)) s1 (decide (b2 = true)) s3 (decide (b4 = true)) s5 (decide (b6 = true)) s7 0) ∧ True) ∧
(¬ (¬ (b8 = true)) →
(p_rValid2 (decide (b4 = true)) s5 (decide (b6 = true)) s7) ∧
(∀ b9 : Bool,
((q_rValid2 (decide (b4 = true)) s5 (decide (b6 = true)) s7 (decide (b9 = true))) →
(((¬ (b9 = true)) →
(q_rCmp2 (decide (b0 = true)) s1 (decide (b2 = true)) s3 (decide (b4 = true)) s5 (decide (b6 = true)) s7 0) ∧ True) ∧
(¬ (¬ (b9 = true)) →
(p_rOrder2 (decide (b0 = true)) s1 (decide (b2 = true)) s3 (decide (b4 = true)) s5 (decide (b6 = true)) s7) ∧
(∀ x10 : Int,
((Rng .i64 x10) →
((q_rOrder2 (decide (b0 = true)) s1 (decide (b2 = true)) s3 (decide (b4 = true)) s5 (decide (b6 = true)) s7 x10) →
(q_rCmp2 (decide (b0 = true)) s1 (decide (b2 = true)) s3 (decide (b4 = true)) s5 (decide (b6 = true)) s7 x10) ∧ True))))))))))))))))))))))))
def V_rFloor2 : Prop :=
(∀ b0 : Bool,
(∀ s1 : Sl,
((Ranged s1 [some .u16]) →
(∀ b2 : Bool,
(∀ s3 : Sl,
((Ranged s3 [some .u16]) →
((p_rFloor2 (decide (b0 = true)) s1 (decide (b2 = true)) s3) →
(p_rValid2 (decide (b0 = true)) s1 (decide (b2 = true)) s3) ∧
(∀ b4 : Bool,
((q_rValid2 (decide (b0 = true)) s1 (decide (b2 = true)) s3 (decide (b4 = true))) →
(((¬ (b4 = true)) →
(q_rFloor2 (decide (b0 = true)) s1 (decide (b2 = true)) s3 (decide False) Sl.nil 2) ∧ True) ∧
(¬ (¬ (b4 = true)) →
(p_rFloor1 (decide (b0 = true)) s1 (decide (b2 = true)) s3) ∧
(∀ b5 : Bool,
(∀ s6 : Sl,
((Ranged s6 [some .u16]) →
(∀ b7 : Bool,
(∀ s8 : Sl,
((Ranged s8 [some .u16]) →
((q_rFloor1 (decide (b0 = true)) s1 (decide (b2 = true)) s3 (decide (b5 = true)) s6 (decide (b7 = true)) s8) →
(q_rFloor2 (decide (b0 = true)) s1 (decide (b2 = true)) s3 (decide (b5 = true)) s6 0) ∧ True))))))))))))))))))
def V_rInt2 : Prop :=
(∀ b0 : Bool,
(∀ s1 : Sl,
((Ranged s1 [some .u16]) →
(∀ b2 : Bool,
(∀ s3 : Sl,
((Ranged s3 [some .u16]) →
((p_rInt2 (decide (b0 = true)) s1 (decide (b2 = true)) s3) →
(p_rValid2 (decide (b0 = true)) s1 (decide (b2 = true)) s3) ∧
(∀ b4 : Bool,
((q_rValid2 (decide (b0 = true)) s1 (decide (b2 = true)) s3 (decide (b4 = true))) →
(((¬ (b4 = true)) →
(q_rInt2 (decide (b0 = true)) s1 (decide (b2 = true)) s3 0 2) ∧ True) ∧
(¬ (¬ (b4 = true)) →
(p_rOne s3) ∧
(∀ b5 : Bool,
((q_rOne s3 (decide (b5 = true))) →
(((¬ (b5 = true)) →
(q_rInt2 (decide (b0 = true)) s1 (decide (b2 = true)) s3 0 22) ∧ True) ∧
(¬ (¬ (b5 = true)) →
(p_rInt1 (decide (b0 = true)) s1) ∧
(∀ x6 : Int,
((Rng .i64 x6) →
(∀ x7 : Int,
((Rng .i64 x7) →
((q_rInt1 (decide (b0 = true)) s1 x6 x7) →
(q_rInt2 (decide (b0 = true)) s1 (decide (b2 = true)) s3 x6 x7) ∧ True))))))))))))))))))))
end Go.Sx.N
