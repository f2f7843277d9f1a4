/-
  The conditions of the functions. Conditions: none; printed by a program of our own.
-/
import Derived.Test.YtedajccdbdlaoaaGreatTaxSpec
namespace Go.Sx.N
def V_Split_0 (s0 : Sl) (s16 : Sl) (s17 : Sl) (x18 : Int) (J20 : Sl → Sl → Prop) : Prop :=
((((Sl.len s17) + (Sl.len (Sl.lit [[(.int (Sl.int s0 x18 0)), (.bool (decide (Sl.bool s0 x18 1 = true))), (Sl.d (Sl.sub s0 x18 2)), (.bool (decide (Sl.bool s0 x18 3 = true))), (Sl.d (Sl.sub s0 x18 4))]]))) * 72) ≤ 140737488355328) ∧ J20 (Sl.app s16 (Sl.lit [[(.int (Sl.int s0 x18 0)), (.bool (decide (Sl.bool s0 x18 1 = true))), (Sl.d (Sl.sub s0 x18 2)), (.bool (decide (Sl.bool s0 x18 3 = true))), (Sl.d (Sl.sub s0 x18 4))]])) (Sl.app s17 (Sl.lit [[(.int (Sl.int s0 x18 0)), (.bool (decide (Sl.bool s0 x18 1 = true))), (Sl.d (Sl.sub s0 x18 2)), (.bool (decide (Sl.bool s0 x18 3 = true))), (Sl.d (Sl.sub s0 x18 4))]]))
def V_Split_1 (s0 : Sl) (s16 : Sl) (s17 : Sl) (x18 : Int) (J20 : Sl → Sl → Prop) : Prop :=
((((Sl.len s16) + (Sl.len (Sl.lit [[(.int (Sl.int s0 x18 0)), (.bool (decide (Sl.bool s0 x18 1 = true))), (Sl.d (Sl.sub s0 x18 2)), (.bool (decide (Sl.bool s0 x18 3 = true))), (Sl.d (Sl.sub s0 x18 4))]]))) * 72) ≤ 140737488355328) ∧
(V_Split_0 s0 s16 s17 x18 J20)
def V_Split_2 (s0 : Sl) (s16 : Sl) (s17 : Sl) (x18 : Int) (J20 : Sl → Sl → Prop) : Prop :=
(((V_Split_1 s0 s16 s17 x18 J20)) ∧
((V_Split_1 s0 s16 s17 x18 J20)))
def V_Split_3 (s0 : Sl) (s16 : Sl) (s17 : Sl) (x18 : Int) (J20 : Sl → Sl → Prop) : Prop :=
((Rng .i64 (Sl.int s0 x18 0)) →
((Ranged (Sl.sub s0 x18 2) [some .u16]) →
((Ranged (Sl.sub s0 x18 4) [some .u16]) →
(((V_Split_2 s0 s16 s17 x18 J20)) ∧
((V_Split_1 s0 s16 s17 x18 J20))))))
def V_Split : Prop :=
(∀ s0 : Sl,
((Ranged s0 [some .i64, none, none, none, none]) →
(∀ x1 : Int,
((Rng .i64 x1) →
(∀ x2 : Int,
((Rng .i64 x2) →
(∀ x3 : Int,
((Rng .i64 x3) →
(∀ x4 : Int,
((Rng .u8 x4) →
((p_Split s0 x1 x2 x3 x4) →
(p_awake ) ∧
(∀ b5 : Bool,
((q_awake  (decide (b5 = true))) →
(((¬ (b5 = true)) →
(q_Split s0 x1 x2 x3 x4 (decide False)) ∧ True) ∧
(¬ (¬ (b5 = true)) →
(p_fits s0) ∧
(∀ b6 : Bool,
((q_fits s0 (decide (b6 = true))) →
(((¬ (b6 = true)) →
(q_Split s0 x1 x2 x3 x4 (decide True)) ∧ True) ∧
(¬ (¬ (b6 = true)) →
(p_tValid s0) ∧
(∀ b7 : Bool,
((q_tValid s0 (decide (b7 = true))) →
(((¬ (b7 = true)) →
(q_Split s0 x1 x2 x3 x4 (decide True)) ∧ True) ∧
(¬ (¬ (b7 = true)) →
((Small s0) →
((((Sl.len s0) = 0) →
(q_Split s0 x1 x2 x3 x4 (decide True)) ∧ True) ∧
(¬ ((Sl.len s0) = 0) →
((Small s0) →
((((Sl.len s0) ≥ 20) →
(q_Split s0 x1 x2 x3 x4 (decide True)) ∧ True) ∧
(¬ ((Sl.len s0) ≥ 20) →
((Small s0) →
(p_kPick x1 (Sl.len s0)) ∧
(∀ x8 : Int,
((Rng .i64 x8) →
((q_kPick x1 (Sl.len s0) x8) →
(p_kPick x2 1099511627777) ∧
(∀ x9 : Int,
((Rng .i64 x9) →
((q_kPick x2 1099511627777 x9) →
(∃ J10 : Int → Prop,
(((Rng .i64 (x8 + 1)) ∧
((Small s0) →
((((x8 + 1) < (Sl.len s0)) →
(Rng .i64 (x8 + 1)) ∧
((0 : Int) ≤ (x8 + 1)) ∧
((x8 + 1) < (Sl.len s0)) ∧
((Rng .i64 (Sl.int s0 (x8 + 1) 0)) → J10 (Sl.int s0 (x8 + 1) 0))) ∧
(¬ ((x8 + 1) < (Sl.len s0)) → J10 1099511627777)))) ∧
((∀ x11 : Int,
((Rng .i64 x11) →
(J10 x11 →
((0 : Int) ≤ x8) ∧
(x8 < (Sl.len s0)) ∧
((Rng .i64 (Sl.int s0 x8 0)) →
(Rng .i64 ((Sl.int s0 x8 0) + 1)) ∧
((0 : Int) ≤ x8) ∧
(x8 < (Sl.len s0)) ∧
((Rng .i64 (Sl.int s0 x8 0)) →
(Rng .i64 (x11 - (Sl.int s0 x8 0))) ∧
(Rng .i64 ((x11 - (Sl.int s0 x8 0)) - 1)) ∧
(p_kPick x3 (imax ((x11 - (Sl.int s0 x8 0)) - 1) 1)) ∧
(∀ x12 : Int,
((Rng .i64 x12) →
((q_kPick x3 (imax ((x11 - (Sl.int s0 x8 0)) - 1) 1) x12) →
(Rng .i64 (((Sl.int s0 x8 0) + 1) + x12)) ∧
(∃ J13 : Sl → Prop,
((((0 : Int) ≤ 0) ∧
((0 : Int) < (Sl.len s0)) ∧
((Rng .i64 (Sl.int s0 0 0)) →
((((Sl.int s0 0 0) > 0) →
((0 : Int) ≤ 0) ∧
((0 : Int) < (Sl.len s0)) ∧
((Rng .i64 (Sl.int s0 0 0)) →
(p_kPick x3 (Sl.int s0 0 0)) ∧
(∀ x14 : Int,
((Rng .i64 x14) →
((q_kPick x3 (Sl.int s0 0 0) x14) →
(p_fFromInt 0) ∧
(∀ b15 : Bool,
(∀ s16 : Sl,
((Ranged s16 [some .u16]) →
(∀ b17 : Bool,
(∀ s18 : Sl,
((Ranged s18 [some .u16]) →
((q_fFromInt 0 (decide (b15 = true)) s16 (decide (b17 = true)) s18) →
((((Sl.len Sl.nil) + (Sl.len (Sl.lit [[(.int x14), (.bool (decide (b15 = true))), (Sl.d s16), (.bool (decide (b17 = true))), (Sl.d s18)]]))) * 72) ≤ 140737488355328) ∧ J13 (Sl.app Sl.nil (Sl.lit [[(.int x14), (.bool (decide (b15 = true))), (Sl.d s16), (.bool (decide (b17 = true))), (Sl.d s18)]])))))))))))))) ∧
(¬ ((Sl.int s0 0 0) > 0) → J13 Sl.nil)))) ∧
((∀ s14 : Sl,
((Ranged s14 [some .i64, none, none, none, none]) →
(J13 s14 →
(∃ (J15 : Sl → Sl → Int → Prop) (M15 : Sl → Sl → Int → Nat), J15 Sl.nil s14 0 ∧
(∀ s16 : Sl,
((Ranged s16 [some .i64, none, none, none, none]) →
(∀ s17 : Sl,
((Ranged s17 [some .i64, none, none, none, none]) →
(∀ x18 : Int,
((Rng .i64 x18) →
(J15 s16 s17 x18 →
((Small s0) →
(((x18 < (Sl.len s0)) →
(∃ J19 : Sl → Sl → Prop,
(((∃ J20 : Sl → Sl → Prop,
((((0 : Int) ≤ x18) ∧
(x18 < (Sl.len s0)) ∧
((0 : Int) ≤ x18) ∧
(x18 < (Sl.len s0)) ∧
((((Rng .i64 (Sl.int s0 x18 0)) →
((Ranged (Sl.sub s0 x18 2) [some .u16]) →
((Ranged (Sl.sub s0 x18 4) [some .u16]) →
((((((((Sl.len s16) + (Sl.len (Sl.lit [[(.int (Sl.int s0 x18 0)), (.bool (decide (Sl.bool s0 x18 1 = true))), (Sl.d (Sl.sub s0 x18 2)), (.bool (decide (Sl.bool s0 x18 3 = true))), (Sl.d (Sl.sub s0 x18 4))]]))) * 72) ≤ 140737488355328) ∧
((Rng .i64 (Sl.int s0 x18 0)) →
((Ranged (Sl.sub s0 x18 2) [some .u16]) →
((Ranged (Sl.sub s0 x18 4) [some .u16]) →
(V_Split_0 s0 s16 s17 x18 J20))))) ∧
(((Rng .i64 (Sl.int s0 x18 0)) →
((Ranged (Sl.sub s0 x18 2) [some .u16]) →
((Ranged (Sl.sub s0 x18 4) [some .u16]) →
(V_Split_2 s0 s16 s17 x18 J20))))))) ∧
((V_Split_3 s0 s16 s17 x18 J20))))))) ∧
(((Rng .i64 (Sl.int s0 x18 0)) →
((Ranged (Sl.sub s0 x18 2) [some .u16]) →
((Ranged (Sl.sub s0 x18 4) [some .u16]) →
(((V_Split_3 s0 s16 s17 x18 J20)) ∧
(((Rng .i64 (Sl.int s0 x18 0)) →
((Ranged (Sl.sub s0 x18 2) [some .u16]) →
((Ranged (Sl.sub s0 x18 4) [some .u16]) →
(V_Split_1 s0 s16 s17 x18 J20)))))))))))) ∧
((∀ s21 : Sl,
((Ranged s21 [some .i64, none, none, none, none]) →
(∀ s22 : Sl,
((Ranged s22 [some .i64, none, none, none, none]) →
(J20 s21 s22 →
(((x18 = x8) →
((((((Sl.int s0 x8 0) + 1) + x12) < x11) →
((0 : Int) ≤ x8) ∧
(x8 < (Sl.len s0)) ∧
((Ranged (Sl.sub s0 x8 2) [some .u16]) →
((Ranged (Sl.sub s0 x8 4) [some .u16]) →
(p_kCopyFrac (decide (Sl.bool s0 x8 1 = true)) (Sl.sub s0 x8 2) (decide (Sl.bool s0 x8 3 = true)) (Sl.sub s0 x8 4)) ∧
(∀ b23 : Bool,
(∀ s24 : Sl,
((Ranged s24 [some .u16]) →
(∀ b25 : Bool,
(∀ s26 : Sl,
((Ranged s26 [some .u16]) →
((q_kCopyFrac (decide (Sl.bool s0 x8 1 = true)) (Sl.sub s0 x8 2) (decide (Sl.bool s0 x8 3 = true)) (Sl.sub s0 x8 4) (decide (b23 = true)) s24 (decide (b25 = true)) s26) →
((((Sl.len s21) + (Sl.len (Sl.lit [[(.int (((Sl.int s0 x8 0) + 1) + x12)), (.bool (decide (b23 = true))), (Sl.d s24), (.bool (decide (b25 = true))), (Sl.d s26)]]))) * 72) ≤ 140737488355328) ∧ J19 (Sl.app s21 (Sl.lit [[(.int (((Sl.int s0 x8 0) + 1) + x12)), (.bool (decide (b23 = true))), (Sl.d s24), (.bool (decide (b25 = true))), (Sl.d s26)]])) s22)))))))))) ∧
(¬ ((((Sl.int s0 x8 0) + 1) + x12) < x11) → J19 s21 s22))) ∧
(¬ (x18 = x8) → J19 s21 s22))))))))))) ∧
((∀ s20 : Sl,
((Ranged s20 [some .i64, none, none, none, none]) →
(∀ s21 : Sl,
((Ranged s21 [some .i64, none, none, none, none]) →
(J19 s20 s21 →
(Rng .i64 (x18 + 1)) ∧
(J15 s20 s21 (x18 + 1) ∧ M15 s20 s21 (x18 + 1) < M15 s16 s17 x18)))))))))) ∧
(¬ (x18 < (Sl.len s0)) →
((12 : Int) ≠ 0) ∧
(Rng .u8 (Int.tmod x4 12)) ∧
(Rng .i64 (1 + (Int.tmod x4 12))) ∧
(p_tTax s0 x9) ∧
(∀ b19 : Bool,
(∀ s20 : Sl,
((Ranged s20 [some .u16]) →
(∀ b21 : Bool,
(∀ s22 : Sl,
((Ranged s22 [some .u16]) →
(∀ x23 : Int,
((Rng .i64 x23) →
((q_tTax s0 x9 (decide (b19 = true)) s20 (decide (b21 = true)) s22 x23) →
(p_tTax s16 x9) ∧
(∀ b24 : Bool,
(∀ s25 : Sl,
((Ranged s25 [some .u16]) →
(∀ b26 : Bool,
(∀ s27 : Sl,
((Ranged s27 [some .u16]) →
(∀ x28 : Int,
((Rng .i64 x28) →
((q_tTax s16 x9 (decide (b24 = true)) s25 (decide (b26 = true)) s27 x28) →
(p_tTax s17 x9) ∧
(∀ b29 : Bool,
(∀ s30 : Sl,
((Ranged s30 [some .u16]) →
(∀ b31 : Bool,
(∀ s32 : Sl,
((Ranged s32 [some .u16]) →
(∀ x33 : Int,
((Rng .i64 x33) →
((q_tTax s17 x9 (decide (b29 = true)) s30 (decide (b31 = true)) s32 x33) →
(p_tDue s0 (1 + (Int.tmod x4 12)) x9) ∧
(∀ x34 : Int,
((Rng .i64 x34) →
(∀ x35 : Int,
((Rng .i64 x35) →
((q_tDue s0 (1 + (Int.tmod x4 12)) x9 x34 x35) →
(p_tDue s16 (1 + (Int.tmod x4 12)) x9) ∧
(∀ x36 : Int,
((Rng .i64 x36) →
(∀ x37 : Int,
((Rng .i64 x37) →
((q_tDue s16 (1 + (Int.tmod x4 12)) x9 x36 x37) →
(p_tDue s17 (1 + (Int.tmod x4 12)) x9) ∧
(∀ x38 : Int,
((Rng .i64 x38) →
(∀ x39 : Int,
((Rng .i64 x39) →
((q_tDue s17 (1 + (Int.tmod x4 12)) x9 x38 x39) →
(Rng .i64 (x23 + x28)) ∧
(Rng .i64 ((x23 + x28) + x33)) ∧
(Rng .i64 (((x23 + x28) + x33) + x35)) ∧
(Rng .i64 ((((x23 + x28) + x33) + x35) + x37)) ∧
(Rng .i64 (((((x23 + x28) + x33) + x35) + x37) + x39)) ∧
((((((((x23 + x28) + x33) + x35) + x37) + x39) = 0) →
(p_fSame (decide (b19 = true)) s20 (decide (b21 = true)) s22 (decide (b24 = true)) s25 (decide (b26 = true)) s27) ∧
(∀ b40 : Bool,
((q_fSame (decide (b19 = true)) s20 (decide (b21 = true)) s22 (decide (b24 = true)) s25 (decide (b26 = true)) s27 (decide (b40 = true))) →
(((b40 = true) →
(p_fSame (decide (b19 = true)) s20 (decide (b21 = true)) s22 (decide (b29 = true)) s30 (decide (b31 = true)) s32) ∧
(∀ b41 : Bool,
((q_fSame (decide (b19 = true)) s20 (decide (b21 = true)) s22 (decide (b29 = true)) s30 (decide (b31 = true)) s32 (decide (b41 = true))) →
(((b41 = true) →
(((x34 = x36) →
(q_Split s0 x1 x2 x3 x4 (decide (x34 = x38))) ∧ True) ∧
(¬ (x34 = x36) →
(q_Split s0 x1 x2 x3 x4 (decide False)) ∧ True))) ∧
(¬ (b41 = true) →
(q_Split s0 x1 x2 x3 x4 (decide False)) ∧ True))))) ∧
(¬ (b40 = true) →
(q_Split s0 x1 x2 x3 x4 (decide False)) ∧ True))))) ∧
(¬ ((((((x23 + x28) + x33) + x35) + x37) + x39) = 0) →
(q_Split s0 x1 x2 x3 x4 (decide False)) ∧ True))))))))))))))))))))))))))))))))))))))))))))))))))))))))))))))))))))))))))))))))))))))))))))))))))))))))))))
end Go.Sx.N
