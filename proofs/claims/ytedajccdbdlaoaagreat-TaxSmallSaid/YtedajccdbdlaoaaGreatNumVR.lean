/-
  The conditions of the functions. Conditions: none; printed by a program of our own.
-/
import Derived.Test.YtedajccdbdlaoaaGreatTaxSpec
set_option maxRecDepth 20000
namespace Go.Sx.N
def V_xValid : Prop :=
(∀ s0 : Sl,
((Ranged s0 [some .i64, none, none, none, none]) →
((p_xValid s0) →
((Small s0) →
((((Sl.len s0) > 20) →
(q_xValid s0 (decide False)) ∧ True) ∧
(¬ ((Sl.len s0) > 20) →
(∃ (J1 : Int → Prop) (M1 : Int → Nat), J1 0 ∧
(∀ x2 : Int,
((Rng .i64 x2) →
(J1 x2 →
((Small s0) →
(((x2 < (Sl.len s0)) →
((0 : Int) ≤ x2) ∧
(x2 < (Sl.len s0)) ∧
((Rng .i64 (Sl.int s0 x2 0)) →
((Ranged (Sl.sub s0 x2 2) [some .u16]) →
((Ranged (Sl.sub s0 x2 4) [some .u16]) →
((((Sl.int s0 x2 0) < 0) →
(q_xValid s0 (decide False)) ∧ True) ∧
(¬ ((Sl.int s0 x2 0) < 0) →
((((Sl.int s0 x2 0) > 1099511627776) →
(q_xValid s0 (decide False)) ∧ True) ∧
(¬ ((Sl.int s0 x2 0) > 1099511627776) →
(p_rValid2 (decide (Sl.bool s0 x2 1 = true)) (Sl.sub s0 x2 2) (decide (Sl.bool s0 x2 3 = true)) (Sl.sub s0 x2 4)) ∧
(∀ b3 : Bool,
((q_rValid2 (decide (Sl.bool s0 x2 1 = true)) (Sl.sub s0 x2 2) (decide (Sl.bool s0 x2 3 = true)) (Sl.sub s0 x2 4) (decide (b3 = true))) →
(((¬ (b3 = true)) →
(q_xValid s0 (decide False)) ∧ True) ∧
(¬ (¬ (b3 = true)) →
(p_rFromInt2 0) ∧
(∀ b4 : Bool,
(∀ s5 : Sl,
((Ranged s5 [some .u16]) →
(∀ b6 : Bool,
(∀ s7 : Sl,
((Ranged s7 [some .u16]) →
((q_rFromInt2 0 (decide (b4 = true)) s5 (decide (b6 = true)) s7) →
(p_rCmp2 (decide (Sl.bool s0 x2 1 = true)) (Sl.sub s0 x2 2) (decide (Sl.bool s0 x2 3 = true)) (Sl.sub s0 x2 4) (decide (b4 = true)) s5 (decide (b6 = true)) s7) ∧
(∀ x8 : Int,
((Rng .i64 x8) →
((q_rCmp2 (decide (Sl.bool s0 x2 1 = true)) (Sl.sub s0 x2 2) (decide (Sl.bool s0 x2 3 = true)) (Sl.sub s0 x2 4) (decide (b4 = true)) s5 (decide (b6 = true)) s7 x8) →
(((x8 < 0) →
(q_xValid s0 (decide False)) ∧ True) ∧
(¬ (x8 < 0) →
(p_rFromInt2 1) ∧
(∀ b9 : Bool,
(∀ s10 : Sl,
((Ranged s10 [some .u16]) →
(∀ b11 : Bool,
(∀ s12 : Sl,
((Ranged s12 [some .u16]) →
((q_rFromInt2 1 (decide (b9 = true)) s10 (decide (b11 = true)) s12) →
(p_rCmp2 (decide (Sl.bool s0 x2 1 = true)) (Sl.sub s0 x2 2) (decide (Sl.bool s0 x2 3 = true)) (Sl.sub s0 x2 4) (decide (b9 = true)) s10 (decide (b11 = true)) s12) ∧
(∀ x13 : Int,
((Rng .i64 x13) →
((q_rCmp2 (decide (Sl.bool s0 x2 1 = true)) (Sl.sub s0 x2 2) (decide (Sl.bool s0 x2 3 = true)) (Sl.sub s0 x2 4) (decide (b9 = true)) s10 (decide (b11 = true)) s12 x13) →
(((x13 > 0) →
(q_xValid s0 (decide False)) ∧ True) ∧
(¬ (x13 > 0) →
(p_rFromInt2 1) ∧
(∀ b14 : Bool,
(∀ s15 : Sl,
((Ranged s15 [some .u16]) →
(∀ b16 : Bool,
(∀ s17 : Sl,
((Ranged s17 [some .u16]) →
((q_rFromInt2 1 (decide (b14 = true)) s15 (decide (b16 = true)) s17) →
(p_rFromInt2 1000000) ∧
(∀ b18 : Bool,
(∀ s19 : Sl,
((Ranged s19 [some .u16]) →
(∀ b20 : Bool,
(∀ s21 : Sl,
((Ranged s21 [some .u16]) →
((q_rFromInt2 1000000 (decide (b18 = true)) s19 (decide (b20 = true)) s21) →
(p_rCmp2 (decide (Sl.bool s0 x2 3 = true)) (Sl.sub s0 x2 4) (decide (b14 = true)) s15 (decide (b18 = true)) s19 (decide (b20 = true)) s21) ∧
(∀ x22 : Int,
((Rng .i64 x22) →
((q_rCmp2 (decide (Sl.bool s0 x2 3 = true)) (Sl.sub s0 x2 4) (decide (b14 = true)) s15 (decide (b18 = true)) s19 (decide (b20 = true)) s21 x22) →
(((x22 > 0) →
(q_xValid s0 (decide False)) ∧ True) ∧
(¬ (x22 > 0) →
(((x2 > 0) →
(Rng .i64 (x2 - 1)) ∧
((0 : Int) ≤ (x2 - 1)) ∧
((x2 - 1) < (Sl.len s0)) ∧
((Rng .i64 (Sl.int s0 (x2 - 1) 0)) →
((((Sl.int s0 (x2 - 1) 0) ≥ (Sl.int s0 x2 0)) →
(q_xValid s0 (decide False)) ∧ True) ∧
(¬ ((Sl.int s0 (x2 - 1) 0) ≥ (Sl.int s0 x2 0)) →
(Rng .i64 (x2 - 1)) ∧
((0 : Int) ≤ (x2 - 1)) ∧
((x2 - 1) < (Sl.len s0)) ∧
((Ranged (Sl.sub s0 (x2 - 1) 2) [some .u16]) →
((Ranged (Sl.sub s0 (x2 - 1) 4) [some .u16]) →
(p_rCmp2 (decide (Sl.bool s0 (x2 - 1) 1 = true)) (Sl.sub s0 (x2 - 1) 2) (decide (Sl.bool s0 (x2 - 1) 3 = true)) (Sl.sub s0 (x2 - 1) 4) (decide (Sl.bool s0 x2 1 = true)) (Sl.sub s0 x2 2) (decide (Sl.bool s0 x2 3 = true)) (Sl.sub s0 x2 4)) ∧
(∀ x23 : Int,
((Rng .i64 x23) →
((q_rCmp2 (decide (Sl.bool s0 (x2 - 1) 1 = true)) (Sl.sub s0 (x2 - 1) 2) (decide (Sl.bool s0 (x2 - 1) 3 = true)) (Sl.sub s0 (x2 - 1) 4) (decide (Sl.bool s0 x2 1 = true)) (Sl.sub s0 x2 2) (decide (Sl.bool s0 x2 3 = true)) (Sl.sub s0 x2 4) x23) →
(((x23 > 0) →
(q_xValid s0 (decide False)) ∧ True) ∧
(¬ (x23 > 0) →
(Rng .i64 (x2 + 1)) ∧
(J1 (x2 + 1) ∧ M1 (x2 + 1) < M1 x2)))))))))))) ∧
(¬ (x2 > 0) →
(Rng .i64 (x2 + 1)) ∧
(J1 (x2 + 1) ∧ M1 (x2 + 1) < M1 x2)))))))))))))))))))))))))))))))))))))))))))))))))))))))))) ∧
(¬ (x2 < (Sl.len s0)) →
(q_xValid s0 (decide True)) ∧ True)))))))))))))
def V_taxed_0 (J7 : Int → Bool → Sl → Bool → Sl → Prop) (M7 : Int → Bool → Sl → Bool → Sl → Nat) (x8 : Int) (b9 : Bool) (s10 : Sl) (b11 : Bool) (s12 : Sl) : Prop :=
(Rng .i64 (x8 + 1)) ∧
(J7 (x8 + 1) (decide (b9 = true)) s10 (decide (b11 = true)) s12 ∧ M7 (x8 + 1) (decide (b9 = true)) s10 (decide (b11 = true)) s12 < M7 x8 (decide (b9 = true)) s10 (decide (b11 = true)) s12)
def V_taxed_1 (s0 : Sl) (x8 : Int) (J109 : Bool → Sl → Bool → Sl → Prop) : Prop :=
((Ranged (Sl.sub s0 (x8 - 1) 2) [some .u16]) →
((Ranged (Sl.sub s0 (x8 - 1) 4) [some .u16]) →
(p_rMinus2 (decide (Sl.bool s0 x8 1 = true)) (Sl.sub s0 x8 2) (decide (Sl.bool s0 x8 3 = true)) (Sl.sub s0 x8 4) (decide (Sl.bool s0 (x8 - 1) 1 = true)) (Sl.sub s0 (x8 - 1) 2) (decide (Sl.bool s0 (x8 - 1) 3 = true)) (Sl.sub s0 (x8 - 1) 4)) ∧
(∀ b200 : Bool,
(∀ s201 : Sl,
((Ranged s201 [some .u16]) →
(∀ b202 : Bool,
(∀ s203 : Sl,
((Ranged s203 [some .u16]) →
((q_rMinus2 (decide (Sl.bool s0 x8 1 = true)) (Sl.sub s0 x8 2) (decide (Sl.bool s0 x8 3 = true)) (Sl.sub s0 x8 4) (decide (Sl.bool s0 (x8 - 1) 1 = true)) (Sl.sub s0 (x8 - 1) 2) (decide (Sl.bool s0 (x8 - 1) 3 = true)) (Sl.sub s0 (x8 - 1) 4) (decide (b200 = true)) s201 (decide (b202 = true)) s203) → J109 (decide (b200 = true)) s201 (decide (b202 = true)) s203)))))))))
def V_taxed_2 (J7 : Int → Bool → Sl → Bool → Sl → Prop) (M7 : Int → Bool → Sl → Bool → Sl → Nat) (x8 : Int) (b9 : Bool) (s10 : Sl) (b11 : Bool) (s12 : Sl) (b100 : Bool) (s101 : Sl) (b102 : Bool) (s103 : Sl) (b110 : Bool) (s111 : Sl) (b112 : Bool) (s113 : Sl) : Prop :=
(p_rTimes2 (decide (b100 = true)) s101 (decide (b102 = true)) s103 (decide (b110 = true)) s111 (decide (b112 = true)) s113) ∧
(∀ b200 : Bool,
(∀ s201 : Sl,
((Ranged s201 [some .u16]) →
(∀ b202 : Bool,
(∀ s203 : Sl,
((Ranged s203 [some .u16]) →
((q_rTimes2 (decide (b100 = true)) s101 (decide (b102 = true)) s103 (decide (b110 = true)) s111 (decide (b112 = true)) s113 (decide (b200 = true)) s201 (decide (b202 = true)) s203) →
(p_rPlus2 (decide (b9 = true)) s10 (decide (b11 = true)) s12 (decide (b200 = true)) s201 (decide (b202 = true)) s203) ∧
(∀ b204 : Bool,
(∀ s205 : Sl,
((Ranged s205 [some .u16]) →
(∀ b206 : Bool,
(∀ s207 : Sl,
((Ranged s207 [some .u16]) →
((q_rPlus2 (decide (b9 = true)) s10 (decide (b11 = true)) s12 (decide (b200 = true)) s201 (decide (b202 = true)) s203 (decide (b204 = true)) s205 (decide (b206 = true)) s207) →
(Rng .i64 (x8 + 1)) ∧
(J7 (x8 + 1) (decide (b204 = true)) s205 (decide (b206 = true)) s207 ∧ M7 (x8 + 1) (decide (b204 = true)) s205 (decide (b206 = true)) s207 < M7 x8 (decide (b9 = true)) s10 (decide (b11 = true)) s12)))))))))))))))
def V_taxed_3 (s0 : Sl) (J7 : Int → Bool → Sl → Bool → Sl → Prop) (M7 : Int → Bool → Sl → Bool → Sl → Nat) (x8 : Int) (b9 : Bool) (s10 : Sl) (b11 : Bool) (s12 : Sl) (b13 : Bool) (s14 : Sl) (b15 : Bool) (s16 : Sl) (b17 : Bool) (s18 : Sl) (b19 : Bool) (s20 : Sl) : Prop :=
(p_rMinus2 (decide (b17 = true)) s18 (decide (b19 = true)) s20 (decide (b13 = true)) s14 (decide (b15 = true)) s16) ∧
(∀ b100 : Bool,
(∀ s101 : Sl,
((Ranged s101 [some .u16]) →
(∀ b102 : Bool,
(∀ s103 : Sl,
((Ranged s103 [some .u16]) →
((q_rMinus2 (decide (b17 = true)) s18 (decide (b19 = true)) s20 (decide (b13 = true)) s14 (decide (b15 = true)) s16 (decide (b100 = true)) s101 (decide (b102 = true)) s103) →
(p_rFromInt2 0) ∧
(∀ b104 : Bool,
(∀ s105 : Sl,
((Ranged s105 [some .u16]) →
(∀ b106 : Bool,
(∀ s107 : Sl,
((Ranged s107 [some .u16]) →
((q_rFromInt2 0 (decide (b104 = true)) s105 (decide (b106 = true)) s107) →
(p_rOrder2 (decide (b100 = true)) s101 (decide (b102 = true)) s103 (decide (b104 = true)) s105 (decide (b106 = true)) s107) ∧
(∀ x108 : Int,
((Rng .i64 x108) →
((q_rOrder2 (decide (b100 = true)) s101 (decide (b102 = true)) s103 (decide (b104 = true)) s105 (decide (b106 = true)) s107 x108) →
(((x108 ≤ 0) →
(V_taxed_0 J7 M7 x8 b9 s10 b11 s12)) ∧
(¬ (x108 ≤ 0) →
((0 : Int) ≤ x8) ∧
(x8 < (Sl.len s0)) ∧
((Ranged (Sl.sub s0 x8 2) [some .u16]) →
((Ranged (Sl.sub s0 x8 4) [some .u16]) →
(∃ J109 : Bool → Sl → Bool → Sl → Prop,
(((((x8 > 0) →
(Rng .i64 (x8 - 1)) ∧
((0 : Int) ≤ (x8 - 1)) ∧
((x8 - 1) < (Sl.len s0)) ∧
(((V_taxed_1 s0 x8 J109)) ∧
((V_taxed_1 s0 x8 J109)))) ∧
(¬ (x8 > 0) → J109 (decide (Sl.bool s0 x8 1 = true)) (Sl.sub s0 x8 2) (decide (Sl.bool s0 x8 3 = true)) (Sl.sub s0 x8 4)))) ∧
((∀ b110 : Bool,
(∀ s111 : Sl,
((Ranged s111 [some .u16]) →
(∀ b112 : Bool,
(∀ s113 : Sl,
((Ranged s113 [some .u16]) →
(J109 (decide (b110 = true)) s111 (decide (b112 = true)) s113 →
(((V_taxed_2 J7 M7 x8 b9 s10 b11 s12 b100 s101 b102 s103 b110 s111 b112 s113)) ∧
((V_taxed_2 J7 M7 x8 b9 s10 b11 s12 b100 s101 b102 s103 b110 s111 b112 s113))))))))))))))))))))))))))))))))))
def V_taxed : Prop :=
(∀ s0 : Sl,
((Ranged s0 [some .i64, none, none, none, none]) →
(∀ x1 : Int,
((Rng .i64 x1) →
(∀ x2 : Int,
((Rng .i64 x2) →
((p_taxed s0 x1 x2) →
(p_rFromInt2 0) ∧
(∀ b3 : Bool,
(∀ s4 : Sl,
((Ranged s4 [some .u16]) →
(∀ b5 : Bool,
(∀ s6 : Sl,
((Ranged s6 [some .u16]) →
((q_rFromInt2 0 (decide (b3 = true)) s4 (decide (b5 = true)) s6) →
(∃ (J7 : Int → Bool → Sl → Bool → Sl → Prop) (M7 : Int → Bool → Sl → Bool → Sl → Nat), J7 0 (decide (b3 = true)) s4 (decide (b5 = true)) s6 ∧
(∀ x8 : Int,
((Rng .i64 x8) →
(∀ b9 : Bool,
(∀ s10 : Sl,
((Ranged s10 [some .u16]) →
(∀ b11 : Bool,
(∀ s12 : Sl,
((Ranged s12 [some .u16]) →
(J7 x8 (decide (b9 = true)) s10 (decide (b11 = true)) s12 →
((Small s0) →
(((x8 < (Sl.len s0)) →
((0 : Int) ≤ x8) ∧
(x8 < (Sl.len s0)) ∧
((Rng .i64 (Sl.int s0 x8 0)) →
(Rng .i64 ((Sl.int s0 x8 0) * x1)) ∧
(p_rQuick ((Sl.int s0 x8 0) * x1) 12) ∧
(∀ b13 : Bool,
(∀ s14 : Sl,
((Ranged s14 [some .u16]) →
(∀ b15 : Bool,
(∀ s16 : Sl,
((Ranged s16 [some .u16]) →
((q_rQuick ((Sl.int s0 x8 0) * x1) 12 (decide (b13 = true)) s14 (decide (b15 = true)) s16) →
(((p_rFromInt2 x2) ∧
(∀ b17 : Bool,
(∀ s18 : Sl,
((Ranged s18 [some .u16]) →
(∀ b19 : Bool,
(∀ s20 : Sl,
((Ranged s20 [some .u16]) →
((q_rFromInt2 x2 (decide (b17 = true)) s18 (decide (b19 = true)) s20) →
(((V_taxed_3 s0 J7 M7 x8 b9 s10 b11 s12 b13 s14 b15 s16 b17 s18 b19 s20)) ∧
((V_taxed_3 s0 J7 M7 x8 b9 s10 b11 s12 b13 s14 b15 s16 b17 s18 b19 s20))))))))))) ∧
((p_rFromInt2 x2) ∧
(∀ b17 : Bool,
(∀ s18 : Sl,
((Ranged s18 [some .u16]) →
(∀ b19 : Bool,
(∀ s20 : Sl,
((Ranged s20 [some .u16]) →
((q_rFromInt2 x2 (decide (b17 = true)) s18 (decide (b19 = true)) s20) →
(V_taxed_3 s0 J7 M7 x8 b9 s10 b11 s12 b13 s14 b15 s16 b17 s18 b19 s20))))))))))))))))))) ∧
(¬ (x8 < (Sl.len s0)) →
(q_taxed s0 x1 x2 (decide (b9 = true)) s10 (decide (b11 = true)) s12) ∧ True)))))))))))))))))))))))))))
def V_xTax : Prop :=
(∀ s0 : Sl,
((Ranged s0 [some .i64, none, none, none, none]) →
(∀ x1 : Int,
((Rng .i64 x1) →
((p_xTax s0 x1) →
(p_xValid s0) ∧
(∀ b2 : Bool,
((q_xValid s0 (decide (b2 = true))) →
(((¬ (b2 = true)) →
(q_xTax s0 x1 (decide False) Sl.nil (decide False) Sl.nil 2) ∧ True) ∧
(¬ (¬ (b2 = true)) →
(((x1 < 0) →
(q_xTax s0 x1 (decide False) Sl.nil (decide False) Sl.nil 2) ∧ True) ∧
(¬ (x1 < 0) →
(((x1 > 1099511627776) →
(q_xTax s0 x1 (decide False) Sl.nil (decide False) Sl.nil 2) ∧ True) ∧
(¬ (x1 > 1099511627776) →
(p_taxed s0 12 x1) ∧
(∀ b3 : Bool,
(∀ s4 : Sl,
((Ranged s4 [some .u16]) →
(∀ b5 : Bool,
(∀ s6 : Sl,
((Ranged s6 [some .u16]) →
((q_taxed s0 12 x1 (decide (b3 = true)) s4 (decide (b5 = true)) s6) →
(q_xTax s0 x1 (decide (b3 = true)) s4 (decide (b5 = true)) s6 0) ∧ True))))))))))))))))))))
def V_xDue : Prop :=
(∀ s0 : Sl,
((Ranged s0 [some .i64, none, none, none, none]) →
(∀ x1 : Int,
((Rng .i64 x1) →
(∀ x2 : Int,
((Rng .i64 x2) →
((p_xDue s0 x1 x2) →
(p_xValid s0) ∧
(∀ b3 : Bool,
((q_xValid s0 (decide (b3 = true))) →
(((¬ (b3 = true)) →
(q_xDue s0 x1 x2 0 2) ∧ True) ∧
(¬ (¬ (b3 = true)) →
(((x1 < 1) →
(q_xDue s0 x1 x2 0 2) ∧ True) ∧
(¬ (x1 < 1) →
(((x1 > 12) →
(q_xDue s0 x1 x2 0 2) ∧ True) ∧
(¬ (x1 > 12) →
(((x2 < 0) →
(q_xDue s0 x1 x2 0 2) ∧ True) ∧
(¬ (x2 < 0) →
(((x2 > 1099511627776) →
(q_xDue s0 x1 x2 0 2) ∧ True) ∧
(¬ (x2 > 1099511627776) →
(p_taxed s0 x1 x2) ∧
(∀ b4 : Bool,
(∀ s5 : Sl,
((Ranged s5 [some .u16]) →
(∀ b6 : Bool,
(∀ s7 : Sl,
((Ranged s7 [some .u16]) →
((q_taxed s0 x1 x2 (decide (b4 = true)) s5 (decide (b6 = true)) s7) →
(p_rFloor2 (decide (b4 = true)) s5 (decide (b6 = true)) s7) ∧
(∀ b8 : Bool,
(∀ s9 : Sl,
((Ranged s9 [some .u16]) →
(∀ x10 : Int,
((Rng .i64 x10) →
((q_rFloor2 (decide (b4 = true)) s5 (decide (b6 = true)) s7 (decide (b8 = true)) s9 x10) →
(p_rFromInt2 1) ∧
(∀ b11 : Bool,
(∀ s12 : Sl,
((Ranged s12 [some .u16]) →
(∀ b13 : Bool,
(∀ s14 : Sl,
((Ranged s14 [some .u16]) →
((q_rFromInt2 1 (decide (b11 = true)) s12 (decide (b13 = true)) s14) →
(p_rInt2 (decide (b8 = true)) s9 (decide (b11 = true)) s12) ∧
(∀ x15 : Int,
((Rng .i64 x15) →
(∀ x16 : Int,
((Rng .i64 x16) →
((q_rInt2 (decide (b8 = true)) s9 (decide (b11 = true)) s12 x15 x16) →
(q_xDue s0 x1 x2 x15 0) ∧ True))))))))))))))))))))))))))))))))))))))))))))
def V_xScale : Prop :=
(∀ s0 : Sl,
((Ranged s0 [some .i64, none]) →
(∀ x1 : Int,
((Rng .i64 x1) →
((p_xScale s0 x1) →
(∃ (J2 : Int → Int → Prop) (M2 : Int → Int → Nat), J2 (-1) 0 ∧
(∀ x3 : Int,
((Rng .i64 x3) →
(∀ x4 : Int,
((Rng .i64 x4) →
(J2 x3 x4 →
((Small s0) →
(((x4 < (Sl.len s0)) →
((0 : Int) ≤ x4) ∧
(x4 < (Sl.len s0)) ∧
((Ranged (Sl.sub s0 x4 1) [some .i64, none, none, none, none]) →
(p_xValid (Sl.sub s0 x4 1)) ∧
(∀ b5 : Bool,
((q_xValid (Sl.sub s0 x4 1) (decide (b5 = true))) →
(((¬ (b5 = true)) →
(q_xScale s0 x1 Sl.nil 2) ∧ True) ∧
(¬ (¬ (b5 = true)) →
(((x4 > 0) →
(Rng .i64 (x4 - 1)) ∧
((0 : Int) ≤ (x4 - 1)) ∧
((x4 - 1) < (Sl.len s0)) ∧
((Rng .i64 (Sl.int s0 (x4 - 1) 0)) →
((0 : Int) ≤ x4) ∧
(x4 < (Sl.len s0)) ∧
((Rng .i64 (Sl.int s0 x4 0)) →
((((Sl.int s0 (x4 - 1) 0) ≥ (Sl.int s0 x4 0)) →
(q_xScale s0 x1 Sl.nil 2) ∧ True) ∧
(¬ ((Sl.int s0 (x4 - 1) 0) ≥ (Sl.int s0 x4 0)) →
((0 : Int) ≤ x4) ∧
(x4 < (Sl.len s0)) ∧
((Rng .i64 (Sl.int s0 x4 0)) →
((((Sl.int s0 x4 0) ≤ x1) →
(Rng .i64 (x4 + 1)) ∧
(J2 x4 (x4 + 1) ∧ M2 x4 (x4 + 1) < M2 x3 x4)) ∧
(¬ ((Sl.int s0 x4 0) ≤ x1) →
(Rng .i64 (x4 + 1)) ∧
(J2 x3 (x4 + 1) ∧ M2 x3 (x4 + 1) < M2 x3 x4))))))))) ∧
(¬ (x4 > 0) →
((0 : Int) ≤ x4) ∧
(x4 < (Sl.len s0)) ∧
((Rng .i64 (Sl.int s0 x4 0)) →
((((Sl.int s0 x4 0) ≤ x1) →
(Rng .i64 (x4 + 1)) ∧
(J2 x4 (x4 + 1) ∧ M2 x4 (x4 + 1) < M2 x3 x4)) ∧
(¬ ((Sl.int s0 x4 0) ≤ x1) →
(Rng .i64 (x4 + 1)) ∧
(J2 x3 (x4 + 1) ∧ M2 x3 (x4 + 1) < M2 x3 x4)))))))))))) ∧
(¬ (x4 < (Sl.len s0)) →
(((x3 < 0) →
(q_xScale s0 x1 Sl.nil 6) ∧ True) ∧
(¬ (x3 < 0) →
((0 : Int) ≤ x3) ∧
(x3 < (Sl.len s0)) ∧
((Ranged (Sl.sub s0 x3 1) [some .i64, none, none, none, none]) →
(q_xScale s0 x1 (Sl.sub s0 x3 1) 0) ∧ True)))))))))))))))))
def V_xWithhold : Prop :=
(∀ s0 : Sl,
((Ranged s0 [some .i64, none]) →
(∀ x1 : Int,
((Rng .i64 x1) →
(∀ x2 : Int,
((Rng .i64 x2) →
(∀ x3 : Int,
((Rng .i64 x3) →
(∀ x4 : Int,
((Rng .i64 x4) →
(∀ x5 : Int,
((Rng .i64 x5) →
((p_xWithhold s0 x1 x2 x3 x4 x5) →
(((x1 < 0) →
(q_xWithhold s0 x1 x2 x3 x4 x5 0 0 0 0 2) ∧ True) ∧
(¬ (x1 < 0) →
(((x1 > 2153) →
(q_xWithhold s0 x1 x2 x3 x4 x5 0 0 0 0 2) ∧ True) ∧
(¬ (x1 > 2153) →
(((x2 < 0) →
(q_xWithhold s0 x1 x2 x3 x4 x5 0 0 0 0 2) ∧ True) ∧
(¬ (x2 < 0) →
(((x2 > 1099511627776) →
(q_xWithhold s0 x1 x2 x3 x4 x5 0 0 0 0 2) ∧ True) ∧
(¬ (x2 > 1099511627776) →
(((x3 < (-1099511627776)) →
(q_xWithhold s0 x1 x2 x3 x4 x5 0 0 0 0 2) ∧ True) ∧
(¬ (x3 < (-1099511627776)) →
(((x3 > 1099511627776) →
(q_xWithhold s0 x1 x2 x3 x4 x5 0 0 0 0 2) ∧ True) ∧
(¬ (x3 > 1099511627776) →
(((x4 < x1) →
(q_xWithhold s0 x1 x2 x3 x4 x5 0 0 0 0 2) ∧ True) ∧
(¬ (x4 < x1) →
(((x4 > 2153) →
(q_xWithhold s0 x1 x2 x3 x4 x5 0 0 0 0 2) ∧ True) ∧
(¬ (x4 > 2153) →
(((x5 < 0) →
(q_xWithhold s0 x1 x2 x3 x4 x5 0 0 0 0 2) ∧ True) ∧
(¬ (x5 < 0) →
(((x5 > 1099511627776) →
(q_xWithhold s0 x1 x2 x3 x4 x5 0 0 0 0 2) ∧ True) ∧
(¬ (x5 > 1099511627776) →
((12 : Int) ≠ 0) ∧
(Rng .i64 (Int.tdiv x4 12)) ∧
(Rng .i64 (1900 + (Int.tdiv x4 12))) ∧
(p_xScale s0 (1900 + (Int.tdiv x4 12))) ∧
(∀ s6 : Sl,
((Ranged s6 [some .i64, none, none, none, none]) →
(∀ x7 : Int,
((Rng .i64 x7) →
((q_xScale s0 (1900 + (Int.tdiv x4 12)) s6 x7) →
(((x7 ≠ 0) →
(q_xWithhold s0 x1 x2 x3 x4 x5 0 0 0 0 x7) ∧ True) ∧
(¬ (x7 ≠ 0) →
((12 : Int) ≠ 0) ∧
(Rng .i64 (Int.tdiv x4 12)) ∧
((12 : Int) ≠ 0) ∧
(Rng .i64 (Int.tdiv x1 12)) ∧
((((Int.tdiv x4 12) > (Int.tdiv x1 12)) →
(Rng .i64 (0 + x5)) ∧
((((0 + x5) > 1099511627776) →
(q_xWithhold s0 x1 x2 x3 x4 x5 0 0 0 0 3) ∧ True) ∧
(¬ ((0 + x5) > 1099511627776) →
((12 : Int) ≠ 0) ∧
(Rng .i64 (Int.tmod x4 12)) ∧
(Rng .i64 ((Int.tmod x4 12) + 1)) ∧
(p_xDue s6 ((Int.tmod x4 12) + 1) (0 + x5)) ∧
(∀ x8 : Int,
((Rng .i64 x8) →
(∀ x9 : Int,
((Rng .i64 x9) →
((q_xDue s6 ((Int.tmod x4 12) + 1) (0 + x5) x8 x9) →
(Rng .i64 (x8 - 0)) ∧
(q_xWithhold s0 x1 x2 x3 x4 x5 (x8 - 0) x4 (0 + x5) x8 0) ∧ True)))))))) ∧
(¬ ((Int.tdiv x4 12) > (Int.tdiv x1 12)) →
(Rng .i64 (x2 + x5)) ∧
((((x2 + x5) > 1099511627776) →
(q_xWithhold s0 x1 x2 x3 x4 x5 0 0 0 0 3) ∧ True) ∧
(¬ ((x2 + x5) > 1099511627776) →
((12 : Int) ≠ 0) ∧
(Rng .i64 (Int.tmod x4 12)) ∧
(Rng .i64 ((Int.tmod x4 12) + 1)) ∧
(p_xDue s6 ((Int.tmod x4 12) + 1) (x2 + x5)) ∧
(∀ x8 : Int,
((Rng .i64 x8) →
(∀ x9 : Int,
((Rng .i64 x9) →
((q_xDue s6 ((Int.tmod x4 12) + 1) (x2 + x5) x8 x9) →
(Rng .i64 (x8 - x3)) ∧
(q_xWithhold s0 x1 x2 x3 x4 x5 (x8 - x3) x4 (x2 + x5) x8 0) ∧ True)))))))))))))))))))))))))))))))))))))))))))))))))
end Go.Sx.N
