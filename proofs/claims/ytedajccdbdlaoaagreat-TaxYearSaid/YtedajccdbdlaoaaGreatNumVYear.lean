/-
  The conditions of the functions. Conditions: none; printed by a program of our own.
-/
import Derived.Test.YtedajccdbdlaoaaGreatTaxSpec
namespace Go.Sx.N
def V_Year : Prop :=
(∀ s0 : Sl,
((Ranged s0 [some .i64, none, none, none, none]) →
(∀ x1 : Int,
((Rng .u8 x1) →
(∀ s2 : Sl,
((Ranged s2 [some .i64, some .i64]) →
((p_Year s0 x1 s2) →
(p_awake ) ∧
(∀ b3 : Bool,
((q_awake  (decide (b3 = true))) →
(((¬ (b3 = true)) →
(q_Year s0 x1 s2 (decide False)) ∧ True) ∧
(¬ (¬ (b3 = true)) →
(p_fits s0) ∧
(∀ b4 : Bool,
((q_fits s0 (decide (b4 = true))) →
(((¬ (b4 = true)) →
(q_Year s0 x1 s2 (decide True)) ∧ True) ∧
(¬ (¬ (b4 = true)) →
(p_tValid s0) ∧
(∀ b5 : Bool,
((q_tValid s0 (decide (b5 = true))) →
(((¬ (b5 = true)) →
(q_Year s0 x1 s2 (decide True)) ∧ True) ∧
(¬ (¬ (b5 = true)) →
((Small s2) →
((((Sl.len s2) > 60) →
(q_Year s0 x1 s2 (decide True)) ∧ True) ∧
(¬ ((Sl.len s2) > 60) →
((179 : Int) ≠ 0) ∧
(Rng .i64 (Int.tmod x1 179)) ∧
(Rng .i64 (12 * (Int.tmod x1 179))) ∧
(∃ (J6 : Int → Int → Int → Int → Int → Prop) (M6 : Int → Int → Int → Int → Int → Nat), J6 0 0 (12 * (Int.tmod x1 179)) 0 0 ∧
(∀ x7 : Int,
((Rng .i64 x7) →
(∀ x8 : Int,
((Rng .i64 x8) →
(∀ x9 : Int,
((Rng .i64 x9) →
(∀ x10 : Int,
((Rng .i64 x10) →
(∀ x11 : Int,
((Rng .i64 x11) →
(J6 x7 x8 x9 x10 x11 →
((Small s2) →
(((x8 ≤ (Sl.len s2)) →
(Rng .i64 ((12 * (Int.tmod x1 179)) + 11)) ∧
((Small s2) →
(((x8 < (Sl.len s2)) →
((0 : Int) ≤ x8) ∧
(x8 < (Sl.len s2)) ∧
((Rng .i64 (Sl.int s2 x8 0)) →
(p_kPick (Sl.int s2 x8 0) 4) ∧
(∀ x12 : Int,
((Rng .i64 x12) →
((q_kPick (Sl.int s2 x8 0) 4 x12) →
(Rng .i64 (x9 + x12)) ∧
((0 : Int) ≤ x8) ∧
(x8 < (Sl.len s2)) ∧
((Rng .i64 (Sl.int s2 x8 1)) →
(p_kPick (Sl.int s2 x8 1) 18325193796) ∧
(∀ x13 : Int,
((Rng .i64 x13) →
((q_kPick (Sl.int s2 x8 1) 18325193796 x13) →
(p_tWithhold (Sl.lit [[(.int 1900), (Sl.d s0)]]) x9 x10 x11 (imin (x9 + x12) ((12 * (Int.tmod x1 179)) + 11)) x13) ∧
(∀ x14 : Int,
((Rng .i64 x14) →
(∀ x15 : Int,
((Rng .i64 x15) →
(∀ x16 : Int,
((Rng .i64 x16) →
(∀ x17 : Int,
((Rng .i64 x17) →
(∀ x18 : Int,
((Rng .i64 x18) →
((q_tWithhold (Sl.lit [[(.int 1900), (Sl.d s0)]]) x9 x10 x11 (imin (x9 + x12) ((12 * (Int.tmod x1 179)) + 11)) x13 x14 x15 x16 x17 x18) →
(Rng .i64 ((imin (x9 + x12) ((12 * (Int.tmod x1 179)) + 11)) - (12 * (Int.tmod x1 179)))) ∧
(Rng .i64 (((imin (x9 + x12) ((12 * (Int.tmod x1 179)) + 11)) - (12 * (Int.tmod x1 179))) + 1)) ∧
(p_tDue s0 (((imin (x9 + x12) ((12 * (Int.tmod x1 179)) + 11)) - (12 * (Int.tmod x1 179))) + 1) x16) ∧
(∀ x19 : Int,
((Rng .i64 x19) →
(∀ x20 : Int,
((Rng .i64 x20) →
((q_tDue s0 (((imin (x9 + x12) ((12 * (Int.tmod x1 179)) + 11)) - (12 * (Int.tmod x1 179))) + 1) x16 x19 x20) →
(Rng .i64 (x7 + x14)) ∧
(((x18 ≠ 0) →
(q_Year s0 x1 s2 (decide False)) ∧ True) ∧
(¬ (x18 ≠ 0) →
(((x20 ≠ 0) →
(q_Year s0 x1 s2 (decide False)) ∧ True) ∧
(¬ (x20 ≠ 0) →
(((x14 > x13) →
(q_Year s0 x1 s2 (decide False)) ∧ True) ∧
(¬ (x14 > x13) →
(Rng .i64 (x10 + x13)) ∧
(((x16 ≠ (x10 + x13)) →
(q_Year s0 x1 s2 (decide False)) ∧ True) ∧
(¬ (x16 ≠ (x10 + x13)) →
(((x17 ≠ (x7 + x14)) →
(q_Year s0 x1 s2 (decide False)) ∧ True) ∧
(¬ (x17 ≠ (x7 + x14)) →
(((x19 ≠ (x7 + x14)) →
(q_Year s0 x1 s2 (decide False)) ∧ True) ∧
(¬ (x19 ≠ (x7 + x14)) →
(((x15 ≠ (imin (x9 + x12) ((12 * (Int.tmod x1 179)) + 11))) →
(q_Year s0 x1 s2 (decide False)) ∧ True) ∧
(¬ (x15 ≠ (imin (x9 + x12) ((12 * (Int.tmod x1 179)) + 11))) →
(Rng .i64 (x8 + 1)) ∧
(J6 (x7 + x14) (x8 + 1) x15 x16 x17 ∧ M6 (x7 + x14) (x8 + 1) x15 x16 x17 < M6 x7 x8 x9 x10 x11)))))))))))))))))))))))))))))))))))))))) ∧
(¬ (x8 < (Sl.len s2)) →
(p_tWithhold (Sl.lit [[(.int 1900), (Sl.d s0)]]) x9 x10 x11 ((12 * (Int.tmod x1 179)) + 11) 0) ∧
(∀ x12 : Int,
((Rng .i64 x12) →
(∀ x13 : Int,
((Rng .i64 x13) →
(∀ x14 : Int,
((Rng .i64 x14) →
(∀ x15 : Int,
((Rng .i64 x15) →
(∀ x16 : Int,
((Rng .i64 x16) →
((q_tWithhold (Sl.lit [[(.int 1900), (Sl.d s0)]]) x9 x10 x11 ((12 * (Int.tmod x1 179)) + 11) 0 x12 x13 x14 x15 x16) →
(Rng .i64 (((12 * (Int.tmod x1 179)) + 11) - (12 * (Int.tmod x1 179)))) ∧
(Rng .i64 ((((12 * (Int.tmod x1 179)) + 11) - (12 * (Int.tmod x1 179))) + 1)) ∧
(p_tDue s0 ((((12 * (Int.tmod x1 179)) + 11) - (12 * (Int.tmod x1 179))) + 1) x14) ∧
(∀ x17 : Int,
((Rng .i64 x17) →
(∀ x18 : Int,
((Rng .i64 x18) →
((q_tDue s0 ((((12 * (Int.tmod x1 179)) + 11) - (12 * (Int.tmod x1 179))) + 1) x14 x17 x18) →
(Rng .i64 (x7 + x12)) ∧
(((x16 ≠ 0) →
(q_Year s0 x1 s2 (decide False)) ∧ True) ∧
(¬ (x16 ≠ 0) →
(((x18 ≠ 0) →
(q_Year s0 x1 s2 (decide False)) ∧ True) ∧
(¬ (x18 ≠ 0) →
(((x12 > 0) →
(q_Year s0 x1 s2 (decide False)) ∧ True) ∧
(¬ (x12 > 0) →
(Rng .i64 (x10 + 0)) ∧
(((x14 ≠ (x10 + 0)) →
(q_Year s0 x1 s2 (decide False)) ∧ True) ∧
(¬ (x14 ≠ (x10 + 0)) →
(((x15 ≠ (x7 + x12)) →
(q_Year s0 x1 s2 (decide False)) ∧ True) ∧
(¬ (x15 ≠ (x7 + x12)) →
(((x17 ≠ (x7 + x12)) →
(q_Year s0 x1 s2 (decide False)) ∧ True) ∧
(¬ (x17 ≠ (x7 + x12)) →
(((x13 ≠ ((12 * (Int.tmod x1 179)) + 11)) →
(q_Year s0 x1 s2 (decide False)) ∧ True) ∧
(¬ (x13 ≠ ((12 * (Int.tmod x1 179)) + 11)) →
(Rng .i64 (x8 + 1)) ∧
(J6 (x7 + x12) (x8 + 1) x13 x14 x15 ∧ M6 (x7 + x12) (x8 + 1) x13 x14 x15 < M6 x7 x8 x9 x10 x11))))))))))))))))))))))))))))))))))) ∧
(¬ (x8 ≤ (Sl.len s2)) →
(p_tTax s0 x10) ∧
(∀ b12 : Bool,
(∀ s13 : Sl,
((Ranged s13 [some .u16]) →
(∀ b14 : Bool,
(∀ s15 : Sl,
((Ranged s15 [some .u16]) →
(∀ x16 : Int,
((Rng .i64 x16) →
((q_tTax s0 x10 (decide (b12 = true)) s13 (decide (b14 = true)) s15 x16) →
(((x16 = 0) →
(p_below (decide (b12 = true)) s13 (decide (b14 = true)) s15) ∧
(∀ x17 : Int,
((Rng .i64 x17) →
((q_below (decide (b12 = true)) s13 (decide (b14 = true)) s15 x17) →
(q_Year s0 x1 s2 (decide (x17 = x7))) ∧ True)))) ∧
(¬ (x16 = 0) →
(q_Year s0 x1 s2 (decide False)) ∧ True))))))))))))))))))))))))))))))))))))))))))))))))
end Go.Sx.N
