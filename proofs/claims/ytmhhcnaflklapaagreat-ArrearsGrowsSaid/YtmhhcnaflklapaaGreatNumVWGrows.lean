/-
  The conditions of the functions. Conditions: none; printed by a program of our own.
-/
import Derived.Test.YtmhhcnaflklapaaGreatArrSpec
set_option maxRecDepth 20000
namespace Go.Sx.N
def V_WGrows : Prop :=
(∀ x0 : Int,
((Rng .u32 x0) →
(∀ x1 : Int,
((Rng .u32 x1) →
(∀ x2 : Int,
((Rng .u8 x2) →
(∀ x3 : Int,
((Rng .u8 x3) →
(∀ x4 : Int,
((Rng .u8 x4) →
(∀ s5 : Sl,
((Ranged s5 [some .u8]) →
((p_WGrows x0 x1 x2 x3 x4 s5) →
((100 : Int) ≠ 0) ∧
(Rng .u8 (Int.tmod x2 100)) ∧
(Rng .i64 (1080 + (Int.tmod x2 100))) ∧
((20 : Int) ≠ 0) ∧
(Rng .u8 (Int.tmod x3 20)) ∧
(Rng .i64 ((1080 + (Int.tmod x2 100)) + (Int.tmod x3 20))) ∧
((20 : Int) ≠ 0) ∧
(Rng .u8 (Int.tmod x3 20)) ∧
(Rng .i64 ((1080 + (Int.tmod x2 100)) + (Int.tmod x3 20))) ∧
((20 : Int) ≠ 0) ∧
(Rng .u8 (Int.tmod x4 20)) ∧
(Rng .i64 (((1080 + (Int.tmod x2 100)) + (Int.tmod x3 20)) + (Int.tmod x4 20))) ∧
((Small s5) →
((0 : Int) ≤ 0) ∧
((0 : Int) ≤ (imin (Sl.len s5) 8)) ∧
((imin (Sl.len s5) 8) ≤ (Sl.len s5)) ∧
((((Sl.len (Sl.lit [])) + (Sl.len (Sl.part s5 0 (imin (Sl.len s5) 8)))) * 1) ≤ 140737488355328) ∧
((Small (Sl.app (Sl.lit []) (Sl.part s5 0 (imin (Sl.len s5) 8)))) →
(∃ (J6 : Int → Sl → Prop) (M6 : Int → Sl → Nat), J6 0 (Sl.app (Sl.lit []) (Sl.part s5 0 (imin (Sl.len s5) 8))) ∧
(∀ x7 : Int,
((Rng .i64 x7) →
(∀ s8 : Sl,
((Ranged s8 [some .u8]) →
(J6 x7 s8 →
(((x7 < (Sl.len (Sl.app (Sl.lit []) (Sl.part s5 0 (imin (Sl.len s5) 8))))) →
((0 : Int) ≤ x7) ∧
(x7 < (Sl.len s8)) ∧
((Rng .u8 (Sl.int s8 x7 0)) →
((((Sl.int s8 x7 0) < 255) →
((0 : Int) ≤ x7) ∧
(x7 < (Sl.len s8)) ∧
((Rng .u8 (Sl.int s8 x7 0)) →
((0 : Int) ≤ x7) ∧
(x7 < (Sl.len s8)) ∧
(Rng .i64 (x7 + 1)) ∧
(J6 (x7 + 1) (Sl.upd s8 x7 0 [(.int (IntKind.wrap .u8 ((Sl.int s8 x7 0) + 1)))]) ∧ M6 (x7 + 1) (Sl.upd s8 x7 0 [(.int (IntKind.wrap .u8 ((Sl.int s8 x7 0) + 1)))]) < M6 x7 s8))) ∧
(¬ ((Sl.int s8 x7 0) < 255) →
(Rng .i64 (x7 + 1)) ∧
(J6 (x7 + 1) s8 ∧ M6 (x7 + 1) s8 < M6 x7 s8))))) ∧
(¬ (x7 < (Sl.len (Sl.app (Sl.lit []) (Sl.part s5 0 (imin (Sl.len s5) 8))))) →
(p_rates s5) ∧
(∀ y9 : ByteArray,
(∀ b10 : Bool,
(∀ s11 : Sl,
((Ranged s11 [some .i64, some .i64, some .i64, none, none, none, none]) →
((q_rates s5 y9 (decide (b10 = true)) s11) →
(p_Interest (imin x0 x1) (1080 + (Int.tmod x2 100)) ((1080 + (Int.tmod x2 100)) + (Int.tmod x3 20)) y9 (decide (b10 = true)) s11 0) ∧
(∀ x12 : Int,
((Rng .i64 x12) →
(∀ x13 : Int,
((Rng .i64 x13) →
((q_Interest (imin x0 x1) (1080 + (Int.tmod x2 100)) ((1080 + (Int.tmod x2 100)) + (Int.tmod x3 20)) y9 (decide (b10 = true)) s11 0 x12 x13) →
(p_rates s5) ∧
(∀ y14 : ByteArray,
(∀ b15 : Bool,
(∀ s16 : Sl,
((Ranged s16 [some .i64, some .i64, some .i64, none, none, none, none]) →
((q_rates s5 y14 (decide (b15 = true)) s16) →
(p_Interest (imax x0 x1) (1080 + (Int.tmod x2 100)) ((1080 + (Int.tmod x2 100)) + (Int.tmod x3 20)) y14 (decide (b15 = true)) s16 0) ∧
(∀ x17 : Int,
((Rng .i64 x17) →
(∀ x18 : Int,
((Rng .i64 x18) →
((q_Interest (imax x0 x1) (1080 + (Int.tmod x2 100)) ((1080 + (Int.tmod x2 100)) + (Int.tmod x3 20)) y14 (decide (b15 = true)) s16 0 x17 x18) →
(p_rates s5) ∧
(∀ y19 : ByteArray,
(∀ b20 : Bool,
(∀ s21 : Sl,
((Ranged s21 [some .i64, some .i64, some .i64, none, none, none, none]) →
((q_rates s5 y19 (decide (b20 = true)) s21) →
(p_Interest (imin x0 x1) (1080 + (Int.tmod x2 100)) (((1080 + (Int.tmod x2 100)) + (Int.tmod x3 20)) + (Int.tmod x4 20)) y19 (decide (b20 = true)) s21 0) ∧
(∀ x22 : Int,
((Rng .i64 x22) →
(∀ x23 : Int,
((Rng .i64 x23) →
((q_Interest (imin x0 x1) (1080 + (Int.tmod x2 100)) (((1080 + (Int.tmod x2 100)) + (Int.tmod x3 20)) + (Int.tmod x4 20)) y19 (decide (b20 = true)) s21 0 x22 x23) →
(p_rates s8) ∧
(∀ y24 : ByteArray,
(∀ b25 : Bool,
(∀ s26 : Sl,
((Ranged s26 [some .i64, some .i64, some .i64, none, none, none, none]) →
((q_rates s8 y24 (decide (b25 = true)) s26) →
(p_Interest (imin x0 x1) (1080 + (Int.tmod x2 100)) ((1080 + (Int.tmod x2 100)) + (Int.tmod x3 20)) y24 (decide (b25 = true)) s26 0) ∧
(∀ x27 : Int,
((Rng .i64 x27) →
(∀ x28 : Int,
((Rng .i64 x28) →
((q_Interest (imin x0 x1) (1080 + (Int.tmod x2 100)) ((1080 + (Int.tmod x2 100)) + (Int.tmod x3 20)) y24 (decide (b25 = true)) s26 0 x27 x28) →
(p_rates s5) ∧
(∀ y29 : ByteArray,
(∀ b30 : Bool,
(∀ s31 : Sl,
((Ranged s31 [some .i64, some .i64, some .i64, none, none, none, none]) →
((q_rates s5 y29 (decide (b30 = true)) s31) →
(p_Interest (imax x0 x1) (1080 + (Int.tmod x2 100)) (1080 + (Int.tmod x2 100)) y29 (decide (b30 = true)) s31 0) ∧
(∀ x32 : Int,
((Rng .i64 x32) →
(∀ x33 : Int,
((Rng .i64 x33) →
((q_Interest (imax x0 x1) (1080 + (Int.tmod x2 100)) (1080 + (Int.tmod x2 100)) y29 (decide (b30 = true)) s31 0 x32 x33) →
(Rng .i64 (x13 + x18)) ∧
(Rng .i64 ((x13 + x18) + x23)) ∧
(Rng .i64 (((x13 + x18) + x23) + x28)) ∧
(Rng .i64 ((((x13 + x18) + x23) + x28) + x33)) ∧
(((((((x13 + x18) + x23) + x28) + x33) = 0) →
(((x12 ≥ 0) →
(((x12 ≤ x17) →
(((x12 ≤ x22) →
(((x12 ≤ x27) →
(((x32 = 0) →
(p_aAwake ) ∧
(∀ b34 : Bool,
((q_aAwake  (decide (b34 = true))) →
(q_WGrows x0 x1 x2 x3 x4 s5 (decide (b34 = true))) ∧ True))) ∧
(¬ (x32 = 0) →
(q_WGrows x0 x1 x2 x3 x4 s5 (decide False)) ∧ True))) ∧
(¬ (x12 ≤ x27) →
(q_WGrows x0 x1 x2 x3 x4 s5 (decide False)) ∧ True))) ∧
(¬ (x12 ≤ x22) →
(q_WGrows x0 x1 x2 x3 x4 s5 (decide False)) ∧ True))) ∧
(¬ (x12 ≤ x17) →
(q_WGrows x0 x1 x2 x3 x4 s5 (decide False)) ∧ True))) ∧
(¬ (x12 ≥ 0) →
(q_WGrows x0 x1 x2 x3 x4 s5 (decide False)) ∧ True))) ∧
(¬ (((((x13 + x18) + x23) + x28) + x33) = 0) →
(q_WGrows x0 x1 x2 x3 x4 s5 (decide False)) ∧ True)))))))))))))))))))))))))))))))))))))))))))))))))))))))))))))))))))))))))))
end Go.Sx.N
