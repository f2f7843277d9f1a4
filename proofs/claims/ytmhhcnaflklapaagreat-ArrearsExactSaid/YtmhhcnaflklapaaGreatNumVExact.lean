/-
  The conditions of the functions. Conditions: none; printed by a program of our own.
-/
import Derived.Test.YtmhhcnaflklapaaGreatArrSpec
set_option maxRecDepth 20000
namespace Go.Sx.N
def V_Exact : Prop :=
(∀ x0 : Int,
((Rng .u32 x0) →
(∀ x1 : Int,
((Rng .u8 x1) →
(∀ x2 : Int,
((Rng .u16 x2) →
((p_Exact x0 x1 x2) →
((201 : Int) ≠ 0) ∧
(Rng .i64 (Int.tmod x1 201)) ∧
(p_part x2 10000) ∧
(∀ b3 : Bool,
(∀ s4 : Sl,
((Ranged s4 [some .u16]) →
(∀ b5 : Bool,
(∀ s6 : Sl,
((Ranged s6 [some .u16]) →
((q_part x2 10000 (decide (b3 = true)) s4 (decide (b5 = true)) s6) →
(Rng .i64 (1000 + (Int.tmod x1 201))) ∧
(p_Interest x0 1000 (1000 + (Int.tmod x1 201)) (bytes [114]) (decide False) (Sl.lit [[(.int 1900), (.int 0), (.int 0), (.bool (decide (b3 = true))), (Sl.d s4), (.bool (decide (b5 = true))), (Sl.d s6)]]) 0) ∧
(∀ x7 : Int,
((Rng .i64 x7) →
(∀ x8 : Int,
((Rng .i64 x8) →
((q_Interest x0 1000 (1000 + (Int.tmod x1 201)) (bytes [114]) (decide False) (Sl.lit [[(.int 1900), (.int 0), (.int 0), (.bool (decide (b3 = true))), (Sl.d s4), (.bool (decide (b5 = true))), (Sl.d s6)]]) 0 x7 x8) →
(Rng .i64 (x0 * x2)) ∧
(Rng .i64 ((x0 * x2) * (Int.tmod x1 201))) ∧
(Rng .i64 (x7 * 120000)) ∧
(Rng .i64 ((x7 * 120000) - ((x0 * x2) * (Int.tmod x1 201)))) ∧
(Rng .i64 (2 * ((x7 * 120000) - ((x0 * x2) * (Int.tmod x1 201))))) ∧
(((x8 = 0) →
((((2 * ((x7 * 120000) - ((x0 * x2) * (Int.tmod x1 201)))) > (-120000)) →
((((2 * ((x7 * 120000) - ((x0 * x2) * (Int.tmod x1 201)))) ≤ 120000) →
(p_aAwake ) ∧
(∀ b9 : Bool,
((q_aAwake  (decide (b9 = true))) →
(q_Exact x0 x1 x2 (decide (b9 = true))) ∧ True))) ∧
(¬ ((2 * ((x7 * 120000) - ((x0 * x2) * (Int.tmod x1 201)))) ≤ 120000) →
(q_Exact x0 x1 x2 (decide False)) ∧ True))) ∧
(¬ ((2 * ((x7 * 120000) - ((x0 * x2) * (Int.tmod x1 201)))) > (-120000)) →
(q_Exact x0 x1 x2 (decide False)) ∧ True))) ∧
(¬ (x8 = 0) →
(q_Exact x0 x1 x2 (decide False)) ∧ True)))))))))))))))))))))
end Go.Sx.N
