/-
  The conditions of the functions. Conditions: none; printed by a program of our own.
-/
import Derived.Test.YtjbknheeiaaioaaTabSpec
set_option maxRecDepth 20000
namespace Go.Sx.N
def V_TOrder_0 (s0 : Sl) (b1 : Bool) (y3 : ByteArray) (b4 : Bool) (s5 : Sl) (y8 : ByteArray) (b9 : Bool) (s10 : Sl) (y11 : ByteArray) (b12 : Bool) (s13 : Sl) : Prop :=
(p_kSameTable y8 (decide (b9 = true)) s10 y3 (decide (b4 = true)) s5) ∧
(∀ b100 : Bool,
((q_kSameTable y8 (decide (b9 = true)) s10 y3 (decide (b4 = true)) s5 (decide (b100 = true))) →
(((b100 = true) →
(p_kSameTable y11 (decide (b12 = true)) s13 y3 (decide (b4 = true)) s5) ∧
(∀ b101 : Bool,
((q_kSameTable y11 (decide (b12 = true)) s13 y3 (decide (b4 = true)) s5 (decide (b101 = true))) →
(((b101 = true) →
(p_tValid y3 (decide (b4 = true)) s5) ∧
(∀ b102 : Bool,
((q_tValid y3 (decide (b4 = true)) s5 (decide (b102 = true))) →
(q_TOrder s0 (decide (b1 = true)) (decide (b102 = true))) ∧ True))) ∧
(¬ (b101 = true) →
(q_TOrder s0 (decide (b1 = true)) (decide False)) ∧ True))))) ∧
(¬ (b100 = true) →
(q_TOrder s0 (decide (b1 = true)) (decide False)) ∧ True))))
def V_TOrder : Prop :=
(∀ s0 : Sl,
((Ranged s0 [some .u8, some .u8, some .u8, some .u16]) →
(∀ b1 : Bool,
((p_TOrder s0 (decide (b1 = true))) →
(p_awake ) ∧
(∀ b2 : Bool,
((q_awake  (decide (b2 = true))) →
(((¬ (b2 = true)) →
(q_TOrder s0 (decide (b1 = true)) (decide False)) ∧ True) ∧
(¬ (¬ (b2 = true)) →
(p_Built s0 (decide (b1 = true))) ∧
(∀ y3 : ByteArray,
(∀ b4 : Bool,
(∀ s5 : Sl,
((Ranged s5 [some .i64, some .i64, some .i64, none, none, none, none]) →
((q_Built s0 (decide (b1 = true)) y3 (decide (b4 = true)) s5) →
(∃ (J6 : Int → ByteArray → Bool → Sl → ByteArray → Bool → Sl → Prop) (M6 : Int → ByteArray → Bool → Sl → ByteArray → Bool → Sl → Nat), J6 0 (bytes [98, 117, 105, 108, 116]) (decide (b1 = true)) Sl.nil (bytes [98, 117, 105, 108, 116]) (decide (b1 = true)) Sl.nil ∧
(∀ x7 : Int,
((Rng .i64 x7) →
(∀ y8 : ByteArray,
(∀ b9 : Bool,
(∀ s10 : Sl,
((Ranged s10 [some .i64, some .i64, some .i64, none, none, none, none]) →
(∀ y11 : ByteArray,
(∀ b12 : Bool,
(∀ s13 : Sl,
((Ranged s13 [some .i64, some .i64, some .i64, none, none, none, none]) →
(J6 x7 y8 (decide (b9 = true)) s10 y11 (decide (b12 = true)) s13 →
((Small s0) →
(((x7 < (Sl.len s0)) →
(((x7 < 50) →
((0 : Int) ≤ x7) ∧
(x7 < (Sl.len s0)) ∧
((Rng .u8 (Sl.int s0 x7 0)) →
((Rng .u8 (Sl.int s0 x7 1)) →
((Rng .u8 (Sl.int s0 x7 2)) →
((Rng .u16 (Sl.int s0 x7 3)) →
(p_tOf (Sl.int s0 x7 0) (Sl.int s0 x7 1) (Sl.int s0 x7 2) (Sl.int s0 x7 3) (decide (b1 = true))) ∧
(∀ x14 : Int,
((Rng .i64 x14) →
(∀ x15 : Int,
((Rng .i64 x15) →
(∀ x16 : Int,
((Rng .i64 x16) →
(∀ b17 : Bool,
(∀ s18 : Sl,
((Ranged s18 [some .u16]) →
(∀ b19 : Bool,
(∀ s20 : Sl,
((Ranged s20 [some .u16]) →
((q_tOf (Sl.int s0 x7 0) (Sl.int s0 x7 1) (Sl.int s0 x7 2) (Sl.int s0 x7 3) (decide (b1 = true)) x14 x15 x16 (decide (b17 = true)) s18 (decide (b19 = true)) s20) →
(p_Learn y8 (decide (b9 = true)) s10 x14 x15 x16 (decide (b17 = true)) s18 (decide (b19 = true)) s20) ∧
(∀ y21 : ByteArray,
(∀ b22 : Bool,
(∀ s23 : Sl,
((Ranged s23 [some .i64, some .i64, some .i64, none, none, none, none]) →
(∀ x24 : Int,
((Rng .i64 x24) →
((q_Learn y8 (decide (b9 = true)) s10 x14 x15 x16 (decide (b17 = true)) s18 (decide (b19 = true)) s20 y21 (decide (b22 = true)) s23 x24) →
((0 : Int) ≤ x7) ∧
(x7 < (Sl.len s5)) ∧
((Rng .i64 (Sl.int s5 x7 0)) →
((Rng .i64 (Sl.int s5 x7 1)) →
((Rng .i64 (Sl.int s5 x7 2)) →
((Ranged (Sl.sub s5 x7 4) [some .u16]) →
((Ranged (Sl.sub s5 x7 6) [some .u16]) →
(p_Learn y11 (decide (b12 = true)) s13 (Sl.int s5 x7 0) (Sl.int s5 x7 1) (Sl.int s5 x7 2) (decide (Sl.bool s5 x7 3 = true)) (Sl.sub s5 x7 4) (decide (Sl.bool s5 x7 5 = true)) (Sl.sub s5 x7 6)) ∧
(∀ y25 : ByteArray,
(∀ b26 : Bool,
(∀ s27 : Sl,
((Ranged s27 [some .i64, some .i64, some .i64, none, none, none, none]) →
(∀ x28 : Int,
((Rng .i64 x28) →
((q_Learn y11 (decide (b12 = true)) s13 (Sl.int s5 x7 0) (Sl.int s5 x7 1) (Sl.int s5 x7 2) (decide (Sl.bool s5 x7 3 = true)) (Sl.sub s5 x7 4) (decide (Sl.bool s5 x7 5 = true)) (Sl.sub s5 x7 6) y25 (decide (b26 = true)) s27 x28) →
(Rng .i64 (x24 + x28)) ∧
((((x24 + x28) ≠ 0) →
(q_TOrder s0 (decide (b1 = true)) (decide False)) ∧ True) ∧
(¬ ((x24 + x28) ≠ 0) →
(Rng .i64 (x7 + 1)) ∧
(J6 (x7 + 1) y21 (decide (b22 = true)) s23 y25 (decide (b26 = true)) s27 ∧ M6 (x7 + 1) y21 (decide (b22 = true)) s23 y25 (decide (b26 = true)) s27 < M6 x7 y8 (decide (b9 = true)) s10 y11 (decide (b12 = true)) s13)))))))))))))))))))))))))))))))))))))))) ∧
(¬ (x7 < 50) →
(V_TOrder_0 s0 b1 y3 b4 s5 y8 b9 s10 y11 b12 s13)))) ∧
(¬ (x7 < (Sl.len s0)) →
(V_TOrder_0 s0 b1 y3 b4 s5 y8 b9 s10 y11 b12 s13)))))))))))))))))))))))))))))
end Go.Sx.N
