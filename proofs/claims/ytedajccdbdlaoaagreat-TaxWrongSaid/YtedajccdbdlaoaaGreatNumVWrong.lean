/-
  The conditions of the functions. Conditions: none; printed by a program of our own.
-/
import Derived.Test.YtedajccdbdlaoaaGreatTaxSpec
namespace Go.Sx.N
def V_Wrong : Prop :=
(∀ s0 : Sl,
((Ranged s0 [some .i64, none, none, none, none]) →
(∀ x1 : Int,
((Rng .u8 x1) →
(∀ x2 : Int,
((Rng .i64 x2) →
((p_Wrong s0 x1 x2) →
(p_awake ) ∧
(∀ b3 : Bool,
((q_awake  (decide (b3 = true))) →
(((¬ (b3 = true)) →
(q_Wrong s0 x1 x2 (decide False)) ∧ True) ∧
(¬ (¬ (b3 = true)) →
(p_fits s0) ∧
(∀ b4 : Bool,
((q_fits s0 (decide (b4 = true))) →
(((¬ (b4 = true)) →
(q_Wrong s0 x1 x2 (decide True)) ∧ True) ∧
(¬ (¬ (b4 = true)) →
(p_tValid s0) ∧
(∀ b5 : Bool,
((q_tValid s0 (decide (b5 = true))) →
(((¬ (b5 = true)) →
(q_Wrong s0 x1 x2 (decide True)) ∧ True) ∧
(¬ (¬ (b5 = true)) →
((Small s0) →
((((Sl.len s0) < 2) →
(q_Wrong s0 x1 x2 (decide True)) ∧ True) ∧
(¬ ((Sl.len s0) < 2) →
((Small s0) →
(Rng .i64 ((Sl.len s0) - 1)) ∧
(p_kPick x2 ((Sl.len s0) - 1)) ∧
(∀ x6 : Int,
((Rng .i64 x6) →
((q_kPick x2 ((Sl.len s0) - 1) x6) →
(Rng .i64 (1 + x6)) ∧
(p_copied s0) ∧
(∀ s7 : Sl,
((Ranged s7 [some .i64, none, none, none, none]) →
((q_copied s0 s7) →
(p_fFromInt 1) ∧
(∀ b8 : Bool,
(∀ s9 : Sl,
((Ranged s9 [some .u16]) →
(∀ b10 : Bool,
(∀ s11 : Sl,
((Ranged s11 [some .u16]) →
((q_fFromInt 1 (decide (b8 = true)) s9 (decide (b10 = true)) s11) →
(∃ J12 : Sl → Prop,
((((5 : Int) ≠ 0) ∧
(Rng .u8 (Int.tmod x1 5)) ∧
((((Int.tmod x1 5) = 0) →
(Rng .i64 ((1 + x6) - 1)) ∧
((0 : Int) ≤ ((1 + x6) - 1)) ∧
(((1 + x6) - 1) < (Sl.len s7)) ∧
((Rng .i64 (Sl.int s7 ((1 + x6) - 1) 0)) →
((0 : Int) ≤ (1 + x6)) ∧
((1 + x6) < (Sl.len s7)) ∧ J12 (Sl.upd s7 (1 + x6) 0 [(.int (Sl.int s7 ((1 + x6) - 1) 0))]))) ∧
(¬ ((Int.tmod x1 5) = 0) →
((((Int.tmod x1 5) = 1) →
((0 : Int) ≤ (1 + x6)) ∧
((1 + x6) < (Sl.len s7)) ∧ J12 (Sl.upd s7 (1 + x6) 0 [(.int 1099511627777)])) ∧
(¬ ((Int.tmod x1 5) = 1) →
((((Int.tmod x1 5) = 2) →
(p_fFromInt (1 + x6)) ∧
(∀ b13 : Bool,
(∀ s14 : Sl,
((Ranged s14 [some .u16]) →
(∀ b15 : Bool,
(∀ s16 : Sl,
((Ranged s16 [some .u16]) →
((q_fFromInt (1 + x6) (decide (b13 = true)) s14 (decide (b15 = true)) s16) →
(p_fAdd (decide (b8 = true)) s9 (decide (b10 = true)) s11 (decide (b13 = true)) s14 (decide (b15 = true)) s16) ∧
(∀ b17 : Bool,
(∀ s18 : Sl,
((Ranged s18 [some .u16]) →
(∀ b19 : Bool,
(∀ s20 : Sl,
((Ranged s20 [some .u16]) →
(∀ x21 : Int,
((Rng .i64 x21) →
((q_fAdd (decide (b8 = true)) s9 (decide (b10 = true)) s11 (decide (b13 = true)) s14 (decide (b15 = true)) s16 (decide (b17 = true)) s18 (decide (b19 = true)) s20 x21) →
((0 : Int) ≤ (1 + x6)) ∧
((1 + x6) < (Sl.len s7)) ∧ J12 (Sl.upd s7 (1 + x6) 1 [(.bool (decide (b17 = true))), (Sl.d s18), (.bool (decide (b19 = true))), (Sl.d s20)])))))))))))))))))) ∧
(¬ ((Int.tmod x1 5) = 2) →
((((Int.tmod x1 5) = 3) →
((0 : Int) ≤ (1 + x6)) ∧
((1 + x6) < (Sl.len s7)) ∧ J12 (Sl.upd s7 (1 + x6) 1 [(.bool (decide False)), (Sl.d Sl.nil), (.bool (decide False)), (Sl.d Sl.nil)])) ∧
(¬ ((Int.tmod x1 5) = 3) →
((0 : Int) ≤ 0) ∧
((0 : Int) < (Sl.len s7)) ∧ J12 (Sl.upd s7 0 0 [(.int (-1))])))))))))) ∧
((∀ s13 : Sl,
((Ranged s13 [some .i64, none, none, none, none]) →
(J12 s13 →
(p_tTax s13 1) ∧
(∀ b14 : Bool,
(∀ s15 : Sl,
((Ranged s15 [some .u16]) →
(∀ b16 : Bool,
(∀ s17 : Sl,
((Ranged s17 [some .u16]) →
(∀ x18 : Int,
((Rng .i64 x18) →
((q_tTax s13 1 (decide (b14 = true)) s15 (decide (b16 = true)) s17 x18) →
(p_tDue s13 1 1) ∧
(∀ x19 : Int,
((Rng .i64 x19) →
(∀ x20 : Int,
((Rng .i64 x20) →
((q_tDue s13 1 1 x19 x20) →
(p_tScale (Sl.lit [[(.int 1), (Sl.d s13)]]) 5) ∧
(∀ s21 : Sl,
((Ranged s21 [some .i64, none, none, none, none]) →
(∀ x22 : Int,
((Rng .i64 x22) →
((q_tScale (Sl.lit [[(.int 1), (Sl.d s13)]]) 5 s21 x22) →
(p_tWithhold (Sl.lit [[(.int 1), (Sl.d s13)]]) 0 0 0 1 1) ∧
(∀ x23 : Int,
((Rng .i64 x23) →
(∀ x24 : Int,
((Rng .i64 x24) →
(∀ x25 : Int,
((Rng .i64 x25) →
(∀ x26 : Int,
((Rng .i64 x26) →
(∀ x27 : Int,
((Rng .i64 x27) →
((q_tWithhold (Sl.lit [[(.int 1), (Sl.d s13)]]) 0 0 0 1 1 x23 x24 x25 x26 x27) →
(p_tValid s13) ∧
(∀ b28 : Bool,
((q_tValid s13 (decide (b28 = true))) →
(((¬ (b28 = true)) →
(((x18 = 2) →
(((x20 = x18) →
(((x22 = x18) →
(((x27 = x18) →
(p_kSameFrac (decide (b14 = true)) s15 (decide (b16 = true)) s17 (decide False) Sl.nil (decide False) Sl.nil) ∧
(∀ b29 : Bool,
((q_kSameFrac (decide (b14 = true)) s15 (decide (b16 = true)) s17 (decide False) Sl.nil (decide False) Sl.nil (decide (b29 = true))) →
(((b29 = true) →
(((x19 = 0) →
((Small s21) →
((((Sl.len s21) = 0) →
(((x23 = 0) →
(q_Wrong s0 x1 x2 (decide ((x24 = 0) ∧ ((x25 = 0) ∧ (x26 = 0))))) ∧ True) ∧
(¬ (x23 = 0) →
(q_Wrong s0 x1 x2 (decide False)) ∧ True))) ∧
(¬ ((Sl.len s21) = 0) →
(q_Wrong s0 x1 x2 (decide False)) ∧ True)))) ∧
(¬ (x19 = 0) →
(q_Wrong s0 x1 x2 (decide False)) ∧ True))) ∧
(¬ (b29 = true) →
(q_Wrong s0 x1 x2 (decide False)) ∧ True))))) ∧
(¬ (x27 = x18) →
(q_Wrong s0 x1 x2 (decide False)) ∧ True))) ∧
(¬ (x22 = x18) →
(q_Wrong s0 x1 x2 (decide False)) ∧ True))) ∧
(¬ (x20 = x18) →
(q_Wrong s0 x1 x2 (decide False)) ∧ True))) ∧
(¬ (x18 = 2) →
(q_Wrong s0 x1 x2 (decide False)) ∧ True))) ∧
(¬ (¬ (b28 = true)) →
(q_Wrong s0 x1 x2 (decide False)) ∧ True))))))))))))))))))))))))))))))))))))))))))))))))))))))))))))))))))))))))))))
end Go.Sx.N
