/-
  The conditions of the functions. Conditions: none; printed by a program of our own.
-/
import Derived.Test.YtedajccdbdlaoaaGreatTaxSpec
namespace Go.Sx.N
def V_Flat : Prop :=
(∀ x0 : Int,
((Rng .u32 x0) →
(∀ x1 : Int,
((Rng .u32 x1) →
(∀ x2 : Int,
((Rng .i64 x2) →
(∀ x3 : Int,
((Rng .i64 x3) →
(∀ x4 : Int,
((Rng .u8 x4) →
((p_Flat x0 x1 x2 x3 x4) →
(p_awake ) ∧
(∀ b5 : Bool,
((q_awake  (decide (b5 = true))) →
(((¬ (b5 = true)) →
(q_Flat x0 x1 x2 x3 x4 (decide False)) ∧ True) ∧
(¬ (¬ (b5 = true)) →
((1000000 : Int) ≠ 0) ∧
(Rng .u32 (Int.tmod x1 1000000)) ∧
(Rng .i64 (1 + (Int.tmod x1 1000000))) ∧
(Rng .i64 ((1 + (Int.tmod x1 1000000)) + 1)) ∧
(((1 + (Int.tmod x1 1000000)) + 1) ≠ 0) ∧
(Rng .i64 (Int.tmod x0 ((1 + (Int.tmod x1 1000000)) + 1))) ∧
(p_fFromInt (Int.tmod x0 ((1 + (Int.tmod x1 1000000)) + 1))) ∧
(∀ b6 : Bool,
(∀ s7 : Sl,
((Ranged s7 [some .u16]) →
(∀ b8 : Bool,
(∀ s9 : Sl,
((Ranged s9 [some .u16]) →
((q_fFromInt (Int.tmod x0 ((1 + (Int.tmod x1 1000000)) + 1)) (decide (b6 = true)) s7 (decide (b8 = true)) s9) →
(p_fFromInt (1 + (Int.tmod x1 1000000))) ∧
(∀ b10 : Bool,
(∀ s11 : Sl,
((Ranged s11 [some .u16]) →
(∀ b12 : Bool,
(∀ s13 : Sl,
((Ranged s13 [some .u16]) →
((q_fFromInt (1 + (Int.tmod x1 1000000)) (decide (b10 = true)) s11 (decide (b12 = true)) s13) →
(p_fDiv (decide (b6 = true)) s7 (decide (b8 = true)) s9 (decide (b10 = true)) s11 (decide (b12 = true)) s13) ∧
(∀ b14 : Bool,
(∀ s15 : Sl,
((Ranged s15 [some .u16]) →
(∀ b16 : Bool,
(∀ s17 : Sl,
((Ranged s17 [some .u16]) →
(∀ x18 : Int,
((Rng .i64 x18) →
((q_fDiv (decide (b6 = true)) s7 (decide (b8 = true)) s9 (decide (b10 = true)) s11 (decide (b12 = true)) s13 (decide (b14 = true)) s15 (decide (b16 = true)) s17 x18) →
(((x18 ≠ 0) →
(q_Flat x0 x1 x2 x3 x4 (decide False)) ∧ True) ∧
(¬ (x18 ≠ 0) →
(p_kPick x2 1099511627777) ∧
(∀ x19 : Int,
((Rng .i64 x19) →
((q_kPick x2 1099511627777 x19) →
(p_kPick x3 1099511627777) ∧
(∀ x20 : Int,
((Rng .i64 x20) →
((q_kPick x3 1099511627777 x20) →
((12 : Int) ≠ 0) ∧
(Rng .u8 (Int.tmod x4 12)) ∧
(Rng .i64 (1 + (Int.tmod x4 12))) ∧
(p_tTax (Sl.lit [[(.int 0), (.bool (decide (b14 = true))), (Sl.d s15), (.bool (decide (b16 = true))), (Sl.d s17)]]) x19) ∧
(∀ b21 : Bool,
(∀ s22 : Sl,
((Ranged s22 [some .u16]) →
(∀ b23 : Bool,
(∀ s24 : Sl,
((Ranged s24 [some .u16]) →
(∀ x25 : Int,
((Rng .i64 x25) →
((q_tTax (Sl.lit [[(.int 0), (.bool (decide (b14 = true))), (Sl.d s15), (.bool (decide (b16 = true))), (Sl.d s17)]]) x19 (decide (b21 = true)) s22 (decide (b23 = true)) s24 x25) →
(p_fFromInt x19) ∧
(∀ b26 : Bool,
(∀ s27 : Sl,
((Ranged s27 [some .u16]) →
(∀ b28 : Bool,
(∀ s29 : Sl,
((Ranged s29 [some .u16]) →
((q_fFromInt x19 (decide (b26 = true)) s27 (decide (b28 = true)) s29) →
(p_fMul (decide (b26 = true)) s27 (decide (b28 = true)) s29 (decide (b14 = true)) s15 (decide (b16 = true)) s17) ∧
(∀ b30 : Bool,
(∀ s31 : Sl,
((Ranged s31 [some .u16]) →
(∀ b32 : Bool,
(∀ s33 : Sl,
((Ranged s33 [some .u16]) →
(∀ x34 : Int,
((Rng .i64 x34) →
((q_fMul (decide (b26 = true)) s27 (decide (b28 = true)) s29 (decide (b14 = true)) s15 (decide (b16 = true)) s17 (decide (b30 = true)) s31 (decide (b32 = true)) s33 x34) →
(p_tDue (Sl.lit [[(.int 0), (.bool (decide (b14 = true))), (Sl.d s15), (.bool (decide (b16 = true))), (Sl.d s17)]]) (1 + (Int.tmod x4 12)) x19) ∧
(∀ x35 : Int,
((Rng .i64 x35) →
(∀ x36 : Int,
((Rng .i64 x36) →
((q_tDue (Sl.lit [[(.int 0), (.bool (decide (b14 = true))), (Sl.d s15), (.bool (decide (b16 = true))), (Sl.d s17)]]) (1 + (Int.tmod x4 12)) x19 x35 x36) →
(Rng .i64 (x20 * (1 + (Int.tmod x4 12)))) ∧
((12 : Int) ≠ 0) ∧
(Rng .i64 (Int.tdiv (x20 * (1 + (Int.tmod x4 12))) 12)) ∧
(p_tDue (Sl.lit [[(.int x20), (.bool (decide (b14 = true))), (Sl.d s15), (.bool (decide (b16 = true))), (Sl.d s17)]]) (1 + (Int.tmod x4 12)) (imin x19 (Int.tdiv (x20 * (1 + (Int.tmod x4 12))) 12))) ∧
(∀ x37 : Int,
((Rng .i64 x37) →
(∀ x38 : Int,
((Rng .i64 x38) →
((q_tDue (Sl.lit [[(.int x20), (.bool (decide (b14 = true))), (Sl.d s15), (.bool (decide (b16 = true))), (Sl.d s17)]]) (1 + (Int.tmod x4 12)) (imin x19 (Int.tdiv (x20 * (1 + (Int.tmod x4 12))) 12)) x37 x38) →
(p_tDue Sl.nil (1 + (Int.tmod x4 12)) x19) ∧
(∀ x39 : Int,
((Rng .i64 x39) →
(∀ x40 : Int,
((Rng .i64 x40) →
((q_tDue Sl.nil (1 + (Int.tmod x4 12)) x19 x39 x40) →
(Rng .i64 (x25 + x34)) ∧
(Rng .i64 ((x25 + x34) + x36)) ∧
(Rng .i64 (((x25 + x34) + x36) + x38)) ∧
(Rng .i64 ((((x25 + x34) + x36) + x38) + x40)) ∧
(((((((x25 + x34) + x36) + x38) + x40) = 0) →
(p_tValid (Sl.lit [[(.int 0), (.bool (decide (b14 = true))), (Sl.d s15), (.bool (decide (b16 = true))), (Sl.d s17)]])) ∧
(∀ b41 : Bool,
((q_tValid (Sl.lit [[(.int 0), (.bool (decide (b14 = true))), (Sl.d s15), (.bool (decide (b16 = true))), (Sl.d s17)]]) (decide (b41 = true))) →
(((b41 = true) →
(p_fSame (decide (b21 = true)) s22 (decide (b23 = true)) s24 (decide (b30 = true)) s31 (decide (b32 = true)) s33) ∧
(∀ b42 : Bool,
((q_fSame (decide (b21 = true)) s22 (decide (b23 = true)) s24 (decide (b30 = true)) s31 (decide (b32 = true)) s33 (decide (b42 = true))) →
(((b42 = true) →
(Rng .i64 (x19 * (Int.tmod x0 ((1 + (Int.tmod x1 1000000)) + 1)))) ∧
((1 + (Int.tmod x1 1000000)) ≠ 0) ∧
(Rng .i64 (Int.tdiv (x19 * (Int.tmod x0 ((1 + (Int.tmod x1 1000000)) + 1))) (1 + (Int.tmod x1 1000000)))) ∧
(((x35 = (Int.tdiv (x19 * (Int.tmod x0 ((1 + (Int.tmod x1 1000000)) + 1))) (1 + (Int.tmod x1 1000000)))) →
(((x37 = 0) →
(q_Flat x0 x1 x2 x3 x4 (decide (x39 = 0))) ∧ True) ∧
(¬ (x37 = 0) →
(q_Flat x0 x1 x2 x3 x4 (decide False)) ∧ True))) ∧
(¬ (x35 = (Int.tdiv (x19 * (Int.tmod x0 ((1 + (Int.tmod x1 1000000)) + 1))) (1 + (Int.tmod x1 1000000)))) →
(q_Flat x0 x1 x2 x3 x4 (decide False)) ∧ True))) ∧
(¬ (b42 = true) →
(q_Flat x0 x1 x2 x3 x4 (decide False)) ∧ True))))) ∧
(¬ (b41 = true) →
(q_Flat x0 x1 x2 x3 x4 (decide False)) ∧ True))))) ∧
(¬ (((((x25 + x34) + x36) + x38) + x40) = 0) →
(q_Flat x0 x1 x2 x3 x4 (decide False)) ∧ True))))))))))))))))))))))))))))))))))))))))))))))))))))))))))))))))))))))))))))))))))))))))
end Go.Sx.N
