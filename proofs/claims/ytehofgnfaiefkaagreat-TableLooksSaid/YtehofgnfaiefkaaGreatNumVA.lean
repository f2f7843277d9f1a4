/-
  The conditions of the functions. Conditions: none; printed by a program of our own.
-/
import Derived.Test.YtehofgnfaiefkaaGreatNumBase
set_option maxRecDepth 20000
namespace Go.Sx.N
def V_Sub32 : Prop :=
(∀ x0 : Int,
((Rng .u32 x0) →
(∀ x1 : Int,
((Rng .u32 x1) →
(∀ x2 : Int,
((Rng .u32 x2) →
((p_Sub32 x0 x1 x2) →
((0 : Int) ≤ 31) ∧
(Rng .u32 (shr .u32 (IntKind.wrap .u32 (bor .u32 (IntKind.wrap .u32 (band .u32 (IntKind.wrap .u32 (bxor .u32 4294967295 x0)) x1)) (IntKind.wrap .u32 (band .u32 (IntKind.wrap .u32 (bxor .u32 4294967295 (IntKind.wrap .u32 (bxor .u32 x0 x1)))) (IntKind.wrap .u32 ((IntKind.wrap .u32 (x0 - x1)) - x2)))))) 31)) ∧
(q_Sub32 x0 x1 x2 (IntKind.wrap .u32 ((IntKind.wrap .u32 (x0 - x1)) - x2)) (shr .u32 (IntKind.wrap .u32 (bor .u32 (IntKind.wrap .u32 (band .u32 (IntKind.wrap .u32 (bxor .u32 4294967295 x0)) x1)) (IntKind.wrap .u32 (band .u32 (IntKind.wrap .u32 (bxor .u32 4294967295 (IntKind.wrap .u32 (bxor .u32 x0 x1)))) (IntKind.wrap .u32 ((IntKind.wrap .u32 (x0 - x1)) - x2)))))) 31)) ∧ True)))))))
def V_Add32 : Prop :=
(∀ x0 : Int,
((Rng .u32 x0) →
(∀ x1 : Int,
((Rng .u32 x1) →
(∀ x2 : Int,
((Rng .u32 x2) →
((p_Add32 x0 x1 x2) →
((0 : Int) ≤ 32) ∧
(Rng .u64 (shr .u64 (IntKind.wrap .u64 ((IntKind.wrap .u64 (x0 + x1)) + x2)) 32)) ∧
(q_Add32 x0 x1 x2 (IntKind.wrap .u32 (IntKind.wrap .u64 ((IntKind.wrap .u64 (x0 + x1)) + x2))) (IntKind.wrap .u32 (shr .u64 (IntKind.wrap .u64 ((IntKind.wrap .u64 (x0 + x1)) + x2)) 32))) ∧ True)))))))
def V_Len32 : Prop :=
(∀ x0 : Int,
((Rng .u32 x0) →
((p_Len32 x0) →
(((x0 ≥ 65536) →
((0 : Int) ≤ 16) ∧
(Rng .u32 (shr .u32 x0 16)) ∧
((((shr .u32 x0 16) ≥ 256) →
((0 : Int) ≤ 8) ∧
(Rng .u32 (shr .u32 (shr .u32 x0 16) 8)) ∧
(Rng .i64 (16 + 8)) ∧
((0 : Int) ≤ (IntKind.wrap .u8 (shr .u32 (shr .u32 x0 16) 8))) ∧
((IntKind.wrap .u8 (shr .u32 (shr .u32 x0 16) 8)) < (ylen (bytes [0, 1, 2, 2, 3, 3, 3, 3, 4, 4, 4, 4, 4, 4, 4, 4, 5, 5, 5, 5, 5, 5, 5, 5, 5, 5, 5, 5, 5, 5, 5, 5, 6, 6, 6, 6, 6, 6, 6, 6, 6, 6, 6, 6, 6, 6, 6, 6, 6, 6, 6, 6, 6, 6, 6, 6, 6, 6, 6, 6, 6, 6, 6, 6, 7, 7, 7, 7, 7, 7, 7, 7, 7, 7, 7, 7, 7, 7, 7, 7, 7, 7, 7, 7, 7, 7, 7, 7, 7, 7, 7, 7, 7, 7, 7, 7, 7, 7, 7, 7, 7, 7, 7, 7, 7, 7, 7, 7, 7, 7, 7, 7, 7, 7, 7, 7, 7, 7, 7, 7, 7, 7, 7, 7, 7, 7, 7, 7, 8, 8, 8, 8, 8, 8, 8, 8, 8, 8, 8, 8, 8, 8, 8, 8, 8, 8, 8, 8, 8, 8, 8, 8, 8, 8, 8, 8, 8, 8, 8, 8, 8, 8, 8, 8, 8, 8, 8, 8, 8, 8, 8, 8, 8, 8, 8, 8, 8, 8, 8, 8, 8, 8, 8, 8, 8, 8, 8, 8, 8, 8, 8, 8, 8, 8, 8, 8, 8, 8, 8, 8, 8, 8, 8, 8, 8, 8, 8, 8, 8, 8, 8, 8, 8, 8, 8, 8, 8, 8, 8, 8, 8, 8, 8, 8, 8, 8, 8, 8, 8, 8, 8, 8, 8, 8, 8, 8, 8, 8, 8, 8, 8, 8, 8, 8, 8, 8, 8, 8, 8, 8, 8, 8, 8, 8, 8, 8]))) ∧
(Rng .i64 ((16 + 8) + (ychr (bytes [0, 1, 2, 2, 3, 3, 3, 3, 4, 4, 4, 4, 4, 4, 4, 4, 5, 5, 5, 5, 5, 5, 5, 5, 5, 5, 5, 5, 5, 5, 5, 5, 6, 6, 6, 6, 6, 6, 6, 6, 6, 6, 6, 6, 6, 6, 6, 6, 6, 6, 6, 6, 6, 6, 6, 6, 6, 6, 6, 6, 6, 6, 6, 6, 7, 7, 7, 7, 7, 7, 7, 7, 7, 7, 7, 7, 7, 7, 7, 7, 7, 7, 7, 7, 7, 7, 7, 7, 7, 7, 7, 7, 7, 7, 7, 7, 7, 7, 7, 7, 7, 7, 7, 7, 7, 7, 7, 7, 7, 7, 7, 7, 7, 7, 7, 7, 7, 7, 7, 7, 7, 7, 7, 7, 7, 7, 7, 7, 8, 8, 8, 8, 8, 8, 8, 8, 8, 8, 8, 8, 8, 8, 8, 8, 8, 8, 8, 8, 8, 8, 8, 8, 8, 8, 8, 8, 8, 8, 8, 8, 8, 8, 8, 8, 8, 8, 8, 8, 8, 8, 8, 8, 8, 8, 8, 8, 8, 8, 8, 8, 8, 8, 8, 8, 8, 8, 8, 8, 8, 8, 8, 8, 8, 8, 8, 8, 8, 8, 8, 8, 8, 8, 8, 8, 8, 8, 8, 8, 8, 8, 8, 8, 8, 8, 8, 8, 8, 8, 8, 8, 8, 8, 8, 8, 8, 8, 8, 8, 8, 8, 8, 8, 8, 8, 8, 8, 8, 8, 8, 8, 8, 8, 8, 8, 8, 8, 8, 8, 8, 8, 8, 8, 8, 8, 8, 8]) (IntKind.wrap .u8 (shr .u32 (shr .u32 x0 16) 8))))) ∧
(q_Len32 x0 ((16 + 8) + (ychr (bytes [0, 1, 2, 2, 3, 3, 3, 3, 4, 4, 4, 4, 4, 4, 4, 4, 5, 5, 5, 5, 5, 5, 5, 5, 5, 5, 5, 5, 5, 5, 5, 5, 6, 6, 6, 6, 6, 6, 6, 6, 6, 6, 6, 6, 6, 6, 6, 6, 6, 6, 6, 6, 6, 6, 6, 6, 6, 6, 6, 6, 6, 6, 6, 6, 7, 7, 7, 7, 7, 7, 7, 7, 7, 7, 7, 7, 7, 7, 7, 7, 7, 7, 7, 7, 7, 7, 7, 7, 7, 7, 7, 7, 7, 7, 7, 7, 7, 7, 7, 7, 7, 7, 7, 7, 7, 7, 7, 7, 7, 7, 7, 7, 7, 7, 7, 7, 7, 7, 7, 7, 7, 7, 7, 7, 7, 7, 7, 7, 8, 8, 8, 8, 8, 8, 8, 8, 8, 8, 8, 8, 8, 8, 8, 8, 8, 8, 8, 8, 8, 8, 8, 8, 8, 8, 8, 8, 8, 8, 8, 8, 8, 8, 8, 8, 8, 8, 8, 8, 8, 8, 8, 8, 8, 8, 8, 8, 8, 8, 8, 8, 8, 8, 8, 8, 8, 8, 8, 8, 8, 8, 8, 8, 8, 8, 8, 8, 8, 8, 8, 8, 8, 8, 8, 8, 8, 8, 8, 8, 8, 8, 8, 8, 8, 8, 8, 8, 8, 8, 8, 8, 8, 8, 8, 8, 8, 8, 8, 8, 8, 8, 8, 8, 8, 8, 8, 8, 8, 8, 8, 8, 8, 8, 8, 8, 8, 8, 8, 8, 8, 8, 8, 8, 8, 8, 8, 8]) (IntKind.wrap .u8 (shr .u32 (shr .u32 x0 16) 8))))) ∧ True) ∧
(¬ ((shr .u32 x0 16) ≥ 256) →
((0 : Int) ≤ (IntKind.wrap .u8 (shr .u32 x0 16))) ∧
((IntKind.wrap .u8 (shr .u32 x0 16)) < (ylen (bytes [0, 1, 2, 2, 3, 3, 3, 3, 4, 4, 4, 4, 4, 4, 4, 4, 5, 5, 5, 5, 5, 5, 5, 5, 5, 5, 5, 5, 5, 5, 5, 5, 6, 6, 6, 6, 6, 6, 6, 6, 6, 6, 6, 6, 6, 6, 6, 6, 6, 6, 6, 6, 6, 6, 6, 6, 6, 6, 6, 6, 6, 6, 6, 6, 7, 7, 7, 7, 7, 7, 7, 7, 7, 7, 7, 7, 7, 7, 7, 7, 7, 7, 7, 7, 7, 7, 7, 7, 7, 7, 7, 7, 7, 7, 7, 7, 7, 7, 7, 7, 7, 7, 7, 7, 7, 7, 7, 7, 7, 7, 7, 7, 7, 7, 7, 7, 7, 7, 7, 7, 7, 7, 7, 7, 7, 7, 7, 7, 8, 8, 8, 8, 8, 8, 8, 8, 8, 8, 8, 8, 8, 8, 8, 8, 8, 8, 8, 8, 8, 8, 8, 8, 8, 8, 8, 8, 8, 8, 8, 8, 8, 8, 8, 8, 8, 8, 8, 8, 8, 8, 8, 8, 8, 8, 8, 8, 8, 8, 8, 8, 8, 8, 8, 8, 8, 8, 8, 8, 8, 8, 8, 8, 8, 8, 8, 8, 8, 8, 8, 8, 8, 8, 8, 8, 8, 8, 8, 8, 8, 8, 8, 8, 8, 8, 8, 8, 8, 8, 8, 8, 8, 8, 8, 8, 8, 8, 8, 8, 8, 8, 8, 8, 8, 8, 8, 8, 8, 8, 8, 8, 8, 8, 8, 8, 8, 8, 8, 8, 8, 8, 8, 8, 8, 8, 8, 8]))) ∧
(Rng .i64 (16 + (ychr (bytes [0, 1, 2, 2, 3, 3, 3, 3, 4, 4, 4, 4, 4, 4, 4, 4, 5, 5, 5, 5, 5, 5, 5, 5, 5, 5, 5, 5, 5, 5, 5, 5, 6, 6, 6, 6, 6, 6, 6, 6, 6, 6, 6, 6, 6, 6, 6, 6, 6, 6, 6, 6, 6, 6, 6, 6, 6, 6, 6, 6, 6, 6, 6, 6, 7, 7, 7, 7, 7, 7, 7, 7, 7, 7, 7, 7, 7, 7, 7, 7, 7, 7, 7, 7, 7, 7, 7, 7, 7, 7, 7, 7, 7, 7, 7, 7, 7, 7, 7, 7, 7, 7, 7, 7, 7, 7, 7, 7, 7, 7, 7, 7, 7, 7, 7, 7, 7, 7, 7, 7, 7, 7, 7, 7, 7, 7, 7, 7, 8, 8, 8, 8, 8, 8, 8, 8, 8, 8, 8, 8, 8, 8, 8, 8, 8, 8, 8, 8, 8, 8, 8, 8, 8, 8, 8, 8, 8, 8, 8, 8, 8, 8, 8, 8, 8, 8, 8, 8, 8, 8, 8, 8, 8, 8, 8, 8, 8, 8, 8, 8, 8, 8, 8, 8, 8, 8, 8, 8, 8, 8, 8, 8, 8, 8, 8, 8, 8, 8, 8, 8, 8, 8, 8, 8, 8, 8, 8, 8, 8, 8, 8, 8, 8, 8, 8, 8, 8, 8, 8, 8, 8, 8, 8, 8, 8, 8, 8, 8, 8, 8, 8, 8, 8, 8, 8, 8, 8, 8, 8, 8, 8, 8, 8, 8, 8, 8, 8, 8, 8, 8, 8, 8, 8, 8, 8, 8]) (IntKind.wrap .u8 (shr .u32 x0 16))))) ∧
(q_Len32 x0 (16 + (ychr (bytes [0, 1, 2, 2, 3, 3, 3, 3, 4, 4, 4, 4, 4, 4, 4, 4, 5, 5, 5, 5, 5, 5, 5, 5, 5, 5, 5, 5, 5, 5, 5, 5, 6, 6, 6, 6, 6, 6, 6, 6, 6, 6, 6, 6, 6, 6, 6, 6, 6, 6, 6, 6, 6, 6, 6, 6, 6, 6, 6, 6, 6, 6, 6, 6, 7, 7, 7, 7, 7, 7, 7, 7, 7, 7, 7, 7, 7, 7, 7, 7, 7, 7, 7, 7, 7, 7, 7, 7, 7, 7, 7, 7, 7, 7, 7, 7, 7, 7, 7, 7, 7, 7, 7, 7, 7, 7, 7, 7, 7, 7, 7, 7, 7, 7, 7, 7, 7, 7, 7, 7, 7, 7, 7, 7, 7, 7, 7, 7, 8, 8, 8, 8, 8, 8, 8, 8, 8, 8, 8, 8, 8, 8, 8, 8, 8, 8, 8, 8, 8, 8, 8, 8, 8, 8, 8, 8, 8, 8, 8, 8, 8, 8, 8, 8, 8, 8, 8, 8, 8, 8, 8, 8, 8, 8, 8, 8, 8, 8, 8, 8, 8, 8, 8, 8, 8, 8, 8, 8, 8, 8, 8, 8, 8, 8, 8, 8, 8, 8, 8, 8, 8, 8, 8, 8, 8, 8, 8, 8, 8, 8, 8, 8, 8, 8, 8, 8, 8, 8, 8, 8, 8, 8, 8, 8, 8, 8, 8, 8, 8, 8, 8, 8, 8, 8, 8, 8, 8, 8, 8, 8, 8, 8, 8, 8, 8, 8, 8, 8, 8, 8, 8, 8, 8, 8, 8, 8]) (IntKind.wrap .u8 (shr .u32 x0 16))))) ∧ True))) ∧
(¬ (x0 ≥ 65536) →
(((x0 ≥ 256) →
((0 : Int) ≤ 8) ∧
(Rng .u32 (shr .u32 x0 8)) ∧
(Rng .i64 (0 + 8)) ∧
((0 : Int) ≤ (IntKind.wrap .u8 (shr .u32 x0 8))) ∧
((IntKind.wrap .u8 (shr .u32 x0 8)) < (ylen (bytes [0, 1, 2, 2, 3, 3, 3, 3, 4, 4, 4, 4, 4, 4, 4, 4, 5, 5, 5, 5, 5, 5, 5, 5, 5, 5, 5, 5, 5, 5, 5, 5, 6, 6, 6, 6, 6, 6, 6, 6, 6, 6, 6, 6, 6, 6, 6, 6, 6, 6, 6, 6, 6, 6, 6, 6, 6, 6, 6, 6, 6, 6, 6, 6, 7, 7, 7, 7, 7, 7, 7, 7, 7, 7, 7, 7, 7, 7, 7, 7, 7, 7, 7, 7, 7, 7, 7, 7, 7, 7, 7, 7, 7, 7, 7, 7, 7, 7, 7, 7, 7, 7, 7, 7, 7, 7, 7, 7, 7, 7, 7, 7, 7, 7, 7, 7, 7, 7, 7, 7, 7, 7, 7, 7, 7, 7, 7, 7, 8, 8, 8, 8, 8, 8, 8, 8, 8, 8, 8, 8, 8, 8, 8, 8, 8, 8, 8, 8, 8, 8, 8, 8, 8, 8, 8, 8, 8, 8, 8, 8, 8, 8, 8, 8, 8, 8, 8, 8, 8, 8, 8, 8, 8, 8, 8, 8, 8, 8, 8, 8, 8, 8, 8, 8, 8, 8, 8, 8, 8, 8, 8, 8, 8, 8, 8, 8, 8, 8, 8, 8, 8, 8, 8, 8, 8, 8, 8, 8, 8, 8, 8, 8, 8, 8, 8, 8, 8, 8, 8, 8, 8, 8, 8, 8, 8, 8, 8, 8, 8, 8, 8, 8, 8, 8, 8, 8, 8, 8, 8, 8, 8, 8, 8, 8, 8, 8, 8, 8, 8, 8, 8, 8, 8, 8, 8, 8]))) ∧
(Rng .i64 ((0 + 8) + (ychr (bytes [0, 1, 2, 2, 3, 3, 3, 3, 4, 4, 4, 4, 4, 4, 4, 4, 5, 5, 5, 5, 5, 5, 5, 5, 5, 5, 5, 5, 5, 5, 5, 5, 6, 6, 6, 6, 6, 6, 6, 6, 6, 6, 6, 6, 6, 6, 6, 6, 6, 6, 6, 6, 6, 6, 6, 6, 6, 6, 6, 6, 6, 6, 6, 6, 7, 7, 7, 7, 7, 7, 7, 7, 7, 7, 7, 7, 7, 7, 7, 7, 7, 7, 7, 7, 7, 7, 7, 7, 7, 7, 7, 7, 7, 7, 7, 7, 7, 7, 7, 7, 7, 7, 7, 7, 7, 7, 7, 7, 7, 7, 7, 7, 7, 7, 7, 7, 7, 7, 7, 7, 7, 7, 7, 7, 7, 7, 7, 7, 8, 8, 8, 8, 8, 8, 8, 8, 8, 8, 8, 8, 8, 8, 8, 8, 8, 8, 8, 8, 8, 8, 8, 8, 8, 8, 8, 8, 8, 8, 8, 8, 8, 8, 8, 8, 8, 8, 8, 8, 8, 8, 8, 8, 8, 8, 8, 8, 8, 8, 8, 8, 8, 8, 8, 8, 8, 8, 8, 8, 8, 8, 8, 8, 8, 8, 8, 8, 8, 8, 8, 8, 8, 8, 8, 8, 8, 8, 8, 8, 8, 8, 8, 8, 8, 8, 8, 8, 8, 8, 8, 8, 8, 8, 8, 8, 8, 8, 8, 8, 8, 8, 8, 8, 8, 8, 8, 8, 8, 8, 8, 8, 8, 8, 8, 8, 8, 8, 8, 8, 8, 8, 8, 8, 8, 8, 8, 8]) (IntKind.wrap .u8 (shr .u32 x0 8))))) ∧
(q_Len32 x0 ((0 + 8) + (ychr (bytes [0, 1, 2, 2, 3, 3, 3, 3, 4, 4, 4, 4, 4, 4, 4, 4, 5, 5, 5, 5, 5, 5, 5, 5, 5, 5, 5, 5, 5, 5, 5, 5, 6, 6, 6, 6, 6, 6, 6, 6, 6, 6, 6, 6, 6, 6, 6, 6, 6, 6, 6, 6, 6, 6, 6, 6, 6, 6, 6, 6, 6, 6, 6, 6, 7, 7, 7, 7, 7, 7, 7, 7, 7, 7, 7, 7, 7, 7, 7, 7, 7, 7, 7, 7, 7, 7, 7, 7, 7, 7, 7, 7, 7, 7, 7, 7, 7, 7, 7, 7, 7, 7, 7, 7, 7, 7, 7, 7, 7, 7, 7, 7, 7, 7, 7, 7, 7, 7, 7, 7, 7, 7, 7, 7, 7, 7, 7, 7, 8, 8, 8, 8, 8, 8, 8, 8, 8, 8, 8, 8, 8, 8, 8, 8, 8, 8, 8, 8, 8, 8, 8, 8, 8, 8, 8, 8, 8, 8, 8, 8, 8, 8, 8, 8, 8, 8, 8, 8, 8, 8, 8, 8, 8, 8, 8, 8, 8, 8, 8, 8, 8, 8, 8, 8, 8, 8, 8, 8, 8, 8, 8, 8, 8, 8, 8, 8, 8, 8, 8, 8, 8, 8, 8, 8, 8, 8, 8, 8, 8, 8, 8, 8, 8, 8, 8, 8, 8, 8, 8, 8, 8, 8, 8, 8, 8, 8, 8, 8, 8, 8, 8, 8, 8, 8, 8, 8, 8, 8, 8, 8, 8, 8, 8, 8, 8, 8, 8, 8, 8, 8, 8, 8, 8, 8, 8, 8]) (IntKind.wrap .u8 (shr .u32 x0 8))))) ∧ True) ∧
(¬ (x0 ≥ 256) →
((0 : Int) ≤ (IntKind.wrap .u8 x0)) ∧
((IntKind.wrap .u8 x0) < (ylen (bytes [0, 1, 2, 2, 3, 3, 3, 3, 4, 4, 4, 4, 4, 4, 4, 4, 5, 5, 5, 5, 5, 5, 5, 5, 5, 5, 5, 5, 5, 5, 5, 5, 6, 6, 6, 6, 6, 6, 6, 6, 6, 6, 6, 6, 6, 6, 6, 6, 6, 6, 6, 6, 6, 6, 6, 6, 6, 6, 6, 6, 6, 6, 6, 6, 7, 7, 7, 7, 7, 7, 7, 7, 7, 7, 7, 7, 7, 7, 7, 7, 7, 7, 7, 7, 7, 7, 7, 7, 7, 7, 7, 7, 7, 7, 7, 7, 7, 7, 7, 7, 7, 7, 7, 7, 7, 7, 7, 7, 7, 7, 7, 7, 7, 7, 7, 7, 7, 7, 7, 7, 7, 7, 7, 7, 7, 7, 7, 7, 8, 8, 8, 8, 8, 8, 8, 8, 8, 8, 8, 8, 8, 8, 8, 8, 8, 8, 8, 8, 8, 8, 8, 8, 8, 8, 8, 8, 8, 8, 8, 8, 8, 8, 8, 8, 8, 8, 8, 8, 8, 8, 8, 8, 8, 8, 8, 8, 8, 8, 8, 8, 8, 8, 8, 8, 8, 8, 8, 8, 8, 8, 8, 8, 8, 8, 8, 8, 8, 8, 8, 8, 8, 8, 8, 8, 8, 8, 8, 8, 8, 8, 8, 8, 8, 8, 8, 8, 8, 8, 8, 8, 8, 8, 8, 8, 8, 8, 8, 8, 8, 8, 8, 8, 8, 8, 8, 8, 8, 8, 8, 8, 8, 8, 8, 8, 8, 8, 8, 8, 8, 8, 8, 8, 8, 8, 8, 8]))) ∧
(Rng .i64 (0 + (ychr (bytes [0, 1, 2, 2, 3, 3, 3, 3, 4, 4, 4, 4, 4, 4, 4, 4, 5, 5, 5, 5, 5, 5, 5, 5, 5, 5, 5, 5, 5, 5, 5, 5, 6, 6, 6, 6, 6, 6, 6, 6, 6, 6, 6, 6, 6, 6, 6, 6, 6, 6, 6, 6, 6, 6, 6, 6, 6, 6, 6, 6, 6, 6, 6, 6, 7, 7, 7, 7, 7, 7, 7, 7, 7, 7, 7, 7, 7, 7, 7, 7, 7, 7, 7, 7, 7, 7, 7, 7, 7, 7, 7, 7, 7, 7, 7, 7, 7, 7, 7, 7, 7, 7, 7, 7, 7, 7, 7, 7, 7, 7, 7, 7, 7, 7, 7, 7, 7, 7, 7, 7, 7, 7, 7, 7, 7, 7, 7, 7, 8, 8, 8, 8, 8, 8, 8, 8, 8, 8, 8, 8, 8, 8, 8, 8, 8, 8, 8, 8, 8, 8, 8, 8, 8, 8, 8, 8, 8, 8, 8, 8, 8, 8, 8, 8, 8, 8, 8, 8, 8, 8, 8, 8, 8, 8, 8, 8, 8, 8, 8, 8, 8, 8, 8, 8, 8, 8, 8, 8, 8, 8, 8, 8, 8, 8, 8, 8, 8, 8, 8, 8, 8, 8, 8, 8, 8, 8, 8, 8, 8, 8, 8, 8, 8, 8, 8, 8, 8, 8, 8, 8, 8, 8, 8, 8, 8, 8, 8, 8, 8, 8, 8, 8, 8, 8, 8, 8, 8, 8, 8, 8, 8, 8, 8, 8, 8, 8, 8, 8, 8, 8, 8, 8, 8, 8, 8, 8]) (IntKind.wrap .u8 x0)))) ∧
(q_Len32 x0 (0 + (ychr (bytes [0, 1, 2, 2, 3, 3, 3, 3, 4, 4, 4, 4, 4, 4, 4, 4, 5, 5, 5, 5, 5, 5, 5, 5, 5, 5, 5, 5, 5, 5, 5, 5, 6, 6, 6, 6, 6, 6, 6, 6, 6, 6, 6, 6, 6, 6, 6, 6, 6, 6, 6, 6, 6, 6, 6, 6, 6, 6, 6, 6, 6, 6, 6, 6, 7, 7, 7, 7, 7, 7, 7, 7, 7, 7, 7, 7, 7, 7, 7, 7, 7, 7, 7, 7, 7, 7, 7, 7, 7, 7, 7, 7, 7, 7, 7, 7, 7, 7, 7, 7, 7, 7, 7, 7, 7, 7, 7, 7, 7, 7, 7, 7, 7, 7, 7, 7, 7, 7, 7, 7, 7, 7, 7, 7, 7, 7, 7, 7, 8, 8, 8, 8, 8, 8, 8, 8, 8, 8, 8, 8, 8, 8, 8, 8, 8, 8, 8, 8, 8, 8, 8, 8, 8, 8, 8, 8, 8, 8, 8, 8, 8, 8, 8, 8, 8, 8, 8, 8, 8, 8, 8, 8, 8, 8, 8, 8, 8, 8, 8, 8, 8, 8, 8, 8, 8, 8, 8, 8, 8, 8, 8, 8, 8, 8, 8, 8, 8, 8, 8, 8, 8, 8, 8, 8, 8, 8, 8, 8, 8, 8, 8, 8, 8, 8, 8, 8, 8, 8, 8, 8, 8, 8, 8, 8, 8, 8, 8, 8, 8, 8, 8, 8, 8, 8, 8, 8, 8, 8, 8, 8, 8, 8, 8, 8, 8, 8, 8, 8, 8, 8, 8, 8, 8, 8, 8, 8]) (IntKind.wrap .u8 x0)))) ∧ True)))))))
def V_Lz32 : Prop :=
(∀ x0 : Int,
((Rng .u32 x0) →
((p_Lz32 x0) →
(p_Len32 x0) ∧
(∀ x1 : Int,
((Rng .i64 x1) →
((q_Len32 x0 x1) →
(Rng .i64 (32 - x1)) ∧
(q_Lz32 x0 (32 - x1)) ∧ True))))))
def V_Div32 : Prop :=
(∀ x0 : Int,
((Rng .u32 x0) →
(∀ x1 : Int,
((Rng .u32 x1) →
(∀ x2 : Int,
((Rng .u32 x2) →
((p_Div32 x0 x1 x2) →
(((x2 ≠ 0) →
(((x2 ≤ x0) → False /- load: no address 133 -/) ∧
(¬ (x2 ≤ x0) →
((0 : Int) ≤ 32) ∧
(x2 ≠ 0) ∧
(x2 ≠ 0) ∧
(Rng .u64 (Int.tmod (IntKind.wrap .u64 (bor .u64 (IntKind.wrap .u64 (shl .u64 x0 32)) x1)) x2)) ∧
(q_Div32 x0 x1 x2 (IntKind.wrap .u32 (IntKind.wrap .u64 (Int.tdiv (IntKind.wrap .u64 (bor .u64 (IntKind.wrap .u64 (shl .u64 x0 32)) x1)) x2))) (IntKind.wrap .u32 (Int.tmod (IntKind.wrap .u64 (bor .u64 (IntKind.wrap .u64 (shl .u64 x0 32)) x1)) x2))) ∧ True))) ∧
(¬ (x2 ≠ 0) →
((0 : Int) ≤ 32) ∧
(x2 ≠ 0) ∧
(x2 ≠ 0) ∧
(Rng .u64 (Int.tmod (IntKind.wrap .u64 (bor .u64 (IntKind.wrap .u64 (shl .u64 x0 32)) x1)) x2)) ∧
(q_Div32 x0 x1 x2 (IntKind.wrap .u32 (IntKind.wrap .u64 (Int.tdiv (IntKind.wrap .u64 (bor .u64 (IntKind.wrap .u64 (shl .u64 x0 32)) x1)) x2))) (IntKind.wrap .u32 (Int.tmod (IntKind.wrap .u64 (bor .u64 (IntKind.wrap .u64 (shl .u64 x0 32)) x1)) x2))) ∧ True)))))))))
def V_Clone32 : Prop :=
(∀ s0 : Sl,
((Ranged s0 [some .u32]) →
((p_Clone32 s0) →
(∀ b1 : Bool,
(((b1 = true) →
(((Sl.len s0) ≤ 0) →
(q_Clone32 s0 Sl.nil) ∧ True)) ∧
(¬ (b1 = true) →
((((Sl.len (Sl.lit [])) + (Sl.len s0)) * 4) ≤ 140737488355328) ∧
(q_Clone32 s0 (Sl.app (Sl.lit []) s0)) ∧ True))))))
def V_trim : Prop :=
(∀ s0 : Sl,
((Ranged s0 [some .u32]) →
((p_trim s0) →
(∃ (J1 : Sl → Prop) (M1 : Sl → Nat), J1 s0 ∧
(∀ s2 : Sl,
((Ranged s2 [some .u32]) →
(J1 s2 →
((Small s2) →
((((Sl.len s2) > 0) →
((Small s2) →
(Rng .i64 ((Sl.len s2) - 1)) ∧
((0 : Int) ≤ ((Sl.len s2) - 1)) ∧
(((Sl.len s2) - 1) < (Sl.len s2)) ∧
((Rng .u32 (Sl.int s2 ((Sl.len s2) - 1) 0)) →
((((Sl.int s2 ((Sl.len s2) - 1) 0) = 0) →
((Small s2) →
(Rng .i64 ((Sl.len s2) - 1)) ∧
((0 : Int) ≤ 0) ∧
((0 : Int) ≤ ((Sl.len s2) - 1)) ∧
(((Sl.len s2) - 1) ≤ (Sl.len s2)) ∧
(J1 (Sl.part s2 0 ((Sl.len s2) - 1)) ∧ M1 (Sl.part s2 0 ((Sl.len s2) - 1)) < M1 s2))) ∧
(¬ ((Sl.int s2 ((Sl.len s2) - 1) 0) = 0) →
(q_trim s0 s2) ∧ True))))) ∧
(¬ ((Sl.len s2) > 0) →
(q_trim s0 s2) ∧ True))))))))))
def V_pack : Prop :=
(∀ s0 : Sl,
((Ranged s0 [some .u16]) →
((p_pack s0) →
((Small s0) →
(Rng .i64 ((Sl.len s0) + 1)) ∧
((2 : Int) ≠ 0) ∧
(Rng .i64 (Int.tdiv ((Sl.len s0) + 1) 2)) ∧
((0 : Int) ≤ (Int.tdiv ((Sl.len s0) + 1) 2)) ∧
((Int.tdiv ((Sl.len s0) + 1) 2) ≤ (Int.tdiv ((Sl.len s0) + 1) 2)) ∧
(((Int.tdiv ((Sl.len s0) + 1) 2) * 4) ≤ 140737488355328) ∧
((Small s0) →
(∃ (J1 : Int → Sl → Prop) (M1 : Int → Sl → Nat), J1 0 (Sl.rep (Int.tdiv ((Sl.len s0) + 1) 2) [(.int 0)]) ∧
(∀ x2 : Int,
((Rng .i64 x2) →
(∀ s3 : Sl,
((Ranged s3 [some .u32]) →
(J1 x2 s3 →
(((x2 < (Sl.len s0)) →
((0 : Int) ≤ x2) ∧
(x2 < (Sl.len s0)) ∧
((Rng .u16 (Sl.int s0 x2 0)) →
((2 : Int) ≠ 0) ∧
(Rng .i64 (Int.tdiv x2 2)) ∧
((2 : Int) ≠ 0) ∧
(Rng .i64 (Int.tmod x2 2)) ∧
(Rng .i64 (16 * (Int.tmod x2 2))) ∧
((0 : Int) ≤ (16 * (Int.tmod x2 2))) ∧
((0 : Int) ≤ (Int.tdiv x2 2)) ∧
((Int.tdiv x2 2) < (Sl.len s3)) ∧
((Rng .u32 (Sl.int s3 (Int.tdiv x2 2) 0)) →
((0 : Int) ≤ (Int.tdiv x2 2)) ∧
((Int.tdiv x2 2) < (Sl.len s3)) ∧
(Rng .i64 (x2 + 1)) ∧
(J1 (x2 + 1) (Sl.upd s3 (Int.tdiv x2 2) 0 [(.int (IntKind.wrap .u32 (bor .u32 (Sl.int s3 (Int.tdiv x2 2) 0) (IntKind.wrap .u32 (shl .u32 (Sl.int s0 x2 0) (16 * (Int.tmod x2 2)))))))]) ∧ M1 (x2 + 1) (Sl.upd s3 (Int.tdiv x2 2) 0 [(.int (IntKind.wrap .u32 (bor .u32 (Sl.int s3 (Int.tdiv x2 2) 0) (IntKind.wrap .u32 (shl .u32 (Sl.int s0 x2 0) (16 * (Int.tmod x2 2)))))))]) < M1 x2 s3)))) ∧
(¬ (x2 < (Sl.len s0)) →
(q_pack s0 s3) ∧ True)))))))))))))
def V_unpack : Prop :=
(∀ b0 : Bool,
(∀ s1 : Sl,
((Ranged s1 [some .u32]) →
((p_unpack (decide (b0 = true)) s1) →
(p_trim s1) ∧
(∀ s2 : Sl,
((Ranged s2 [some .u32]) →
((q_trim s1 s2) →
((Small s2) →
((((Sl.len s2) = 0) →
(q_unpack (decide (b0 = true)) s1 (decide False) Sl.nil) ∧ True) ∧
(¬ ((Sl.len s2) = 0) →
((Small s2) →
(Rng .i64 (2 * (Sl.len s2))) ∧
((0 : Int) ≤ (2 * (Sl.len s2))) ∧
((2 * (Sl.len s2)) ≤ (2 * (Sl.len s2))) ∧
(((2 * (Sl.len s2)) * 2) ≤ 140737488355328) ∧
((Small s2) →
(∃ (J3 : Int → Sl → Prop) (M3 : Int → Sl → Nat), J3 0 (Sl.rep (2 * (Sl.len s2)) [(.int 0)]) ∧
(∀ x4 : Int,
((Rng .i64 x4) →
(∀ s5 : Sl,
((Ranged s5 [some .u16]) →
(J3 x4 s5 →
(((x4 < (Sl.len s2)) →
((0 : Int) ≤ x4) ∧
(x4 < (Sl.len s2)) ∧
((Rng .u32 (Sl.int s2 x4 0)) →
(Rng .i64 (2 * x4)) ∧
((0 : Int) ≤ (2 * x4)) ∧
((2 * x4) < (Sl.len s5)) ∧
(Rng .i64 (2 * x4)) ∧
(Rng .i64 ((2 * x4) + 1)) ∧
((0 : Int) ≤ 16) ∧
(Rng .u32 (shr .u32 (Sl.int s2 x4 0) 16)) ∧
((0 : Int) ≤ ((2 * x4) + 1)) ∧
(((2 * x4) + 1) < (Sl.len (Sl.upd s5 (2 * x4) 0 [(.int (IntKind.wrap .u16 (Sl.int s2 x4 0)))]))) ∧
(Rng .i64 (x4 + 1)) ∧
(J3 (x4 + 1) (Sl.upd (Sl.upd s5 (2 * x4) 0 [(.int (IntKind.wrap .u16 (Sl.int s2 x4 0)))]) ((2 * x4) + 1) 0 [(.int (IntKind.wrap .u16 (shr .u32 (Sl.int s2 x4 0) 16)))]) ∧ M3 (x4 + 1) (Sl.upd (Sl.upd s5 (2 * x4) 0 [(.int (IntKind.wrap .u16 (Sl.int s2 x4 0)))]) ((2 * x4) + 1) 0 [(.int (IntKind.wrap .u16 (shr .u32 (Sl.int s2 x4 0) 16)))]) < M3 x4 s5))) ∧
(¬ (x4 < (Sl.len s2)) →
((Small s5) →
(Rng .i64 ((Sl.len s5) - 1)) ∧
((0 : Int) ≤ ((Sl.len s5) - 1)) ∧
(((Sl.len s5) - 1) < (Sl.len s5)) ∧
((Rng .u16 (Sl.int s5 ((Sl.len s5) - 1) 0)) →
((((Sl.int s5 ((Sl.len s5) - 1) 0) = 0) →
((Small s5) →
(Rng .i64 ((Sl.len s5) - 1)) ∧
((0 : Int) ≤ 0) ∧
((0 : Int) ≤ ((Sl.len s5) - 1)) ∧
(((Sl.len s5) - 1) ≤ (Sl.len s5)) ∧
(q_unpack (decide (b0 = true)) s1 (decide (b0 = true)) (Sl.part s5 0 ((Sl.len s5) - 1))) ∧ True)) ∧
(¬ ((Sl.int s5 ((Sl.len s5) - 1) 0) = 0) →
(q_unpack (decide (b0 = true)) s1 (decide (b0 = true)) s5) ∧ True))))))))))))))))))))))))
def V_long : Prop :=
(∀ s0 : Sl,
((Ranged s0 [some .u32]) →
((p_long s0) →
((Small s0) →
(Rng .i64 ((Sl.len s0) - 1)) ∧
(∃ (J1 : Int → Int → Prop) (M1 : Int → Int → Nat), J1 ((Sl.len s0) - 1) 0 ∧
(∀ x2 : Int,
((Rng .i64 x2) →
(∀ x3 : Int,
((Rng .u64 x3) →
(J1 x2 x3 →
(((x2 ≥ 0) →
((0 : Int) ≤ x2) ∧
(x2 < (Sl.len s0)) ∧
((Rng .u32 (Sl.int s0 x2 0)) →
((0 : Int) ≤ 32) ∧
(Rng .i64 (x2 - 1)) ∧
(J1 (x2 - 1) (IntKind.wrap .u64 (bor .u64 (IntKind.wrap .u64 (shl .u64 x3 32)) (Sl.int s0 x2 0))) ∧ M1 (x2 - 1) (IntKind.wrap .u64 (bor .u64 (IntKind.wrap .u64 (shl .u64 x3 32)) (Sl.int s0 x2 0))) < M1 x2 x3))) ∧
(¬ (x2 ≥ 0) →
(q_long s0 x3) ∧ True))))))))))))
def V_short : Prop :=
(∀ x0 : Int,
((Rng .u64 x0) →
((p_short x0) →
((0 : Int) ≤ 32) ∧
(Rng .u64 (shr .u64 x0 32)) ∧
(p_trim (Sl.lit [[(.int (IntKind.wrap .u32 x0))], [(.int (IntKind.wrap .u32 (shr .u64 x0 32)))]])) ∧
(∀ s1 : Sl,
((Ranged s1 [some .u32]) →
((q_trim (Sl.lit [[(.int (IntKind.wrap .u32 x0))], [(.int (IntKind.wrap .u32 (shr .u64 x0 32)))]]) s1) →
(q_short x0 s1) ∧ True))))))
def V_compare : Prop :=
(∀ s0 : Sl,
((Ranged s0 [some .u32]) →
(∀ s1 : Sl,
((Ranged s1 [some .u32]) →
((p_compare s0 s1) →
((Small s0) →
((Small s1) →
((((Sl.len s0) ≠ (Sl.len s1)) →
((Small s0) →
((Small s1) →
((((Sl.len s0) < (Sl.len s1)) →
(q_compare s0 s1 (-1)) ∧ True) ∧
(¬ ((Sl.len s0) < (Sl.len s1)) →
(q_compare s0 s1 1) ∧ True))))) ∧
(¬ ((Sl.len s0) ≠ (Sl.len s1)) →
((Small s0) →
(Rng .i64 ((Sl.len s0) - 1)) ∧
(∃ (J2 : Int → Prop) (M2 : Int → Nat), J2 ((Sl.len s0) - 1) ∧
(∀ x3 : Int,
((Rng .i64 x3) →
(J2 x3 →
(((x3 ≥ 0) →
((0 : Int) ≤ x3) ∧
(x3 < (Sl.len s0)) ∧
((Rng .u32 (Sl.int s0 x3 0)) →
((0 : Int) ≤ x3) ∧
(x3 < (Sl.len s1)) ∧
((Rng .u32 (Sl.int s1 x3 0)) →
((((Sl.int s0 x3 0) ≠ (Sl.int s1 x3 0)) →
((0 : Int) ≤ x3) ∧
(x3 < (Sl.len s0)) ∧
((Rng .u32 (Sl.int s0 x3 0)) →
((0 : Int) ≤ x3) ∧
(x3 < (Sl.len s1)) ∧
((Rng .u32 (Sl.int s1 x3 0)) →
((((Sl.int s0 x3 0) < (Sl.int s1 x3 0)) →
(q_compare s0 s1 (-1)) ∧ True) ∧
(¬ ((Sl.int s0 x3 0) < (Sl.int s1 x3 0)) →
(q_compare s0 s1 1) ∧ True))))) ∧
(¬ ((Sl.int s0 x3 0) ≠ (Sl.int s1 x3 0)) →
(Rng .i64 (x3 - 1)) ∧
(J2 (x3 - 1) ∧ M2 (x3 - 1) < M2 x3)))))) ∧
(¬ (x3 ≥ 0) →
(q_compare s0 s1 0) ∧ True))))))))))))))))
def V_divideShort : Prop :=
(∀ s0 : Sl,
((Ranged s0 [some .u32]) →
(∀ x1 : Int,
((Rng .u32 x1) →
((p_divideShort s0 x1) →
((Small s0) →
((0 : Int) ≤ (Sl.len s0)) ∧
((Sl.len s0) ≤ (Sl.len s0)) ∧
(((Sl.len s0) * 4) ≤ 140737488355328) ∧
((Small s0) →
(Rng .i64 ((Sl.len s0) - 1)) ∧
(∃ (J2 : Int → Int → Sl → Prop) (M2 : Int → Int → Sl → Nat), J2 0 ((Sl.len s0) - 1) (Sl.rep (Sl.len s0) [(.int 0)]) ∧
(∀ x3 : Int,
((Rng .u32 x3) →
(∀ x4 : Int,
((Rng .i64 x4) →
(∀ s5 : Sl,
((Ranged s5 [some .u32]) →
(J2 x3 x4 s5 →
(((x4 ≥ 0) →
((0 : Int) ≤ x4) ∧
(x4 < (Sl.len s0)) ∧
((Rng .u32 (Sl.int s0 x4 0)) →
(p_Div32 x3 (Sl.int s0 x4 0) x1) ∧
(∀ x6 : Int,
((Rng .u32 x6) →
(∀ x7 : Int,
((Rng .u32 x7) →
((q_Div32 x3 (Sl.int s0 x4 0) x1 x6 x7) →
((0 : Int) ≤ x4) ∧
(x4 < (Sl.len s5)) ∧
(Rng .i64 (x4 - 1)) ∧
(J2 x7 (x4 - 1) (Sl.upd s5 x4 0 [(.int x6)]) ∧ M2 x7 (x4 - 1) (Sl.upd s5 x4 0 [(.int x6)]) < M2 x3 x4 s5)))))))) ∧
(¬ (x4 ≥ 0) →
(p_trim s5) ∧
(∀ s6 : Sl,
((Ranged s6 [some .u32]) →
((q_trim s5 s6) →
(q_divideShort s0 x1 s6 x3) ∧ True))))))))))))))))))))
def V_shifted : Prop :=
(∀ s0 : Sl,
((Ranged s0 [some .u32]) →
(∀ x1 : Int,
((Rng .i64 x1) →
((p_shifted s0 x1) →
((Small s0) →
(Rng .i64 ((Sl.len s0) + 1)) ∧
((0 : Int) ≤ ((Sl.len s0) + 1)) ∧
(((Sl.len s0) + 1) ≤ ((Sl.len s0) + 1)) ∧
((((Sl.len s0) + 1) * 4) ≤ 140737488355328) ∧
((Small s0) →
(∃ (J2 : Int → Sl → Prop) (M2 : Int → Sl → Nat), J2 0 (Sl.rep ((Sl.len s0) + 1) [(.int 0)]) ∧
(∀ x3 : Int,
((Rng .i64 x3) →
(∀ s4 : Sl,
((Ranged s4 [some .u32]) →
(J2 x3 s4 →
(((x3 < (Sl.len s0)) →
((0 : Int) ≤ x3) ∧
(x3 < (Sl.len s0)) ∧
((Rng .u32 (Sl.int s0 x3 0)) →
((0 : Int) ≤ x1) ∧
((0 : Int) ≤ x3) ∧
(x3 < (Sl.len s4)) ∧
((Rng .u32 (Sl.int s4 x3 0)) →
((0 : Int) ≤ x3) ∧
(x3 < (Sl.len s4)) ∧
(Rng .i64 (x3 + 1)) ∧
((0 : Int) ≤ 32) ∧
(Rng .u64 (shr .u64 (IntKind.wrap .u64 (shl .u64 (Sl.int s0 x3 0) x1)) 32)) ∧
((0 : Int) ≤ (x3 + 1)) ∧
((x3 + 1) < (Sl.len (Sl.upd s4 x3 0 [(.int (IntKind.wrap .u32 (bor .u32 (Sl.int s4 x3 0) (IntKind.wrap .u32 (IntKind.wrap .u64 (shl .u64 (Sl.int s0 x3 0) x1))))))]))) ∧
(Rng .i64 (x3 + 1)) ∧
(J2 (x3 + 1) (Sl.upd (Sl.upd s4 x3 0 [(.int (IntKind.wrap .u32 (bor .u32 (Sl.int s4 x3 0) (IntKind.wrap .u32 (IntKind.wrap .u64 (shl .u64 (Sl.int s0 x3 0) x1))))))]) (x3 + 1) 0 [(.int (IntKind.wrap .u32 (shr .u64 (IntKind.wrap .u64 (shl .u64 (Sl.int s0 x3 0) x1)) 32)))]) ∧ M2 (x3 + 1) (Sl.upd (Sl.upd s4 x3 0 [(.int (IntKind.wrap .u32 (bor .u32 (Sl.int s4 x3 0) (IntKind.wrap .u32 (IntKind.wrap .u64 (shl .u64 (Sl.int s0 x3 0) x1))))))]) (x3 + 1) 0 [(.int (IntKind.wrap .u32 (shr .u64 (IntKind.wrap .u64 (shl .u64 (Sl.int s0 x3 0) x1)) 32)))]) < M2 x3 s4)))) ∧
(¬ (x3 < (Sl.len s0)) →
(q_shifted s0 x1 s4) ∧ True)))))))))))))))
def V_divide : Prop :=
(∀ s0 : Sl,
((Ranged s0 [some .u32]) →
(∀ s1 : Sl,
((Ranged s1 [some .u32]) →
((p_divide s0 s1) →
(p_compare s0 s1) ∧
(∀ x2 : Int,
((Rng .i64 x2) →
((q_compare s0 s1 x2) →
(((x2 < 0) →
(p_Clone32 s0) ∧
(∀ s3 : Sl,
((Ranged s3 [some .u32]) →
((q_Clone32 s0 s3) →
(q_divide s0 s1 Sl.nil s3) ∧ True)))) ∧
(¬ (x2 < 0) →
((Small s1) →
((((Sl.len s1) = 1) →
((0 : Int) ≤ 0) ∧
((0 : Int) < (Sl.len s1)) ∧
((Rng .u32 (Sl.int s1 0 0)) →
(p_divideShort s0 (Sl.int s1 0 0)) ∧
(∀ s3 : Sl,
((Ranged s3 [some .u32]) →
(∀ x4 : Int,
((Rng .u32 x4) →
((q_divideShort s0 (Sl.int s1 0 0) s3 x4) →
(p_trim (Sl.lit [[(.int x4)]])) ∧
(∀ s5 : Sl,
((Ranged s5 [some .u32]) →
((q_trim (Sl.lit [[(.int x4)]]) s5) →
(q_divide s0 s1 s3 s5) ∧ True)))))))))) ∧
(¬ ((Sl.len s1) = 1) →
((Small s1) →
(Rng .i64 ((Sl.len s1) - 1)) ∧
((0 : Int) ≤ ((Sl.len s1) - 1)) ∧
(((Sl.len s1) - 1) < (Sl.len s1)) ∧
((Rng .u32 (Sl.int s1 ((Sl.len s1) - 1) 0)) →
(p_Lz32 (Sl.int s1 ((Sl.len s1) - 1) 0)) ∧
(∀ x3 : Int,
((Rng .i64 x3) →
((q_Lz32 (Sl.int s1 ((Sl.len s1) - 1) 0) x3) →
(p_shifted s1 x3) ∧
(∀ s4 : Sl,
((Ranged s4 [some .u32]) →
((q_shifted s1 x3 s4) →
((0 : Int) ≤ 0) ∧
((0 : Int) ≤ (Sl.len s1)) ∧
((Sl.len s1) ≤ (Sl.len s4)) ∧
(p_shifted s0 x3) ∧
(∀ s5 : Sl,
((Ranged s5 [some .u32]) →
((q_shifted s0 x3 s5) →
((Small s0) →
(Rng .i64 ((Sl.len s0) - (Sl.len s1))) ∧
(Rng .i64 (((Sl.len s0) - (Sl.len s1)) + 1)) ∧
((0 : Int) ≤ (((Sl.len s0) - (Sl.len s1)) + 1)) ∧
((((Sl.len s0) - (Sl.len s1)) + 1) ≤ (((Sl.len s0) - (Sl.len s1)) + 1)) ∧
(((((Sl.len s0) - (Sl.len s1)) + 1) * 4) ≤ 140737488355328) ∧
((Small (Sl.rep (((Sl.len s0) - (Sl.len s1)) + 1) [(.int 0)])) →
(Rng .i64 ((Sl.len (Sl.rep (((Sl.len s0) - (Sl.len s1)) + 1) [(.int 0)])) - 1)) ∧
(∃ (J6 : Sl → Int → Sl → Prop) (M6 : Sl → Int → Sl → Nat), J6 s5 ((Sl.len (Sl.rep (((Sl.len s0) - (Sl.len s1)) + 1) [(.int 0)])) - 1) (Sl.rep (((Sl.len s0) - (Sl.len s1)) + 1) [(.int 0)]) ∧
(∀ s7 : Sl,
((Ranged s7 [some .u32]) →
(∀ x8 : Int,
((Rng .i64 x8) →
(∀ s9 : Sl,
((Ranged s9 [some .u32]) →
(J6 s7 x8 s9 →
(((x8 ≥ 0) →
(Rng .i64 (x8 + (Sl.len s1))) ∧
(Rng .i64 ((x8 + (Sl.len s1)) + 1)) ∧
((0 : Int) ≤ x8) ∧
(x8 ≤ ((x8 + (Sl.len s1)) + 1)) ∧
(((x8 + (Sl.len s1)) + 1) ≤ (Sl.len s7)) ∧
((Small (Sl.part s4 0 (Sl.len s1))) →
((0 : Int) ≤ (Sl.len (Sl.part s4 0 (Sl.len s1)))) ∧
((Sl.len (Sl.part s4 0 (Sl.len s1))) < (((x8 + (Sl.len s1)) + 1) - x8)) ∧
((Rng .u32 (Sl.int s7 (x8 + (Sl.len (Sl.part s4 0 (Sl.len s1)))) 0)) →
((0 : Int) ≤ 32) ∧
(Rng .i64 ((Sl.len (Sl.part s4 0 (Sl.len s1))) - 1)) ∧
((0 : Int) ≤ ((Sl.len (Sl.part s4 0 (Sl.len s1))) - 1)) ∧
(((Sl.len (Sl.part s4 0 (Sl.len s1))) - 1) < (((x8 + (Sl.len s1)) + 1) - x8)) ∧
((Rng .u32 (Sl.int s7 (x8 + ((Sl.len (Sl.part s4 0 (Sl.len s1))) - 1)) 0)) →
(Rng .i64 ((Sl.len (Sl.part s4 0 (Sl.len s1))) - 1)) ∧
((0 : Int) ≤ ((Sl.len (Sl.part s4 0 (Sl.len s1))) - 1)) ∧
(((Sl.len (Sl.part s4 0 (Sl.len s1))) - 1) < (Sl.len (Sl.part s4 0 (Sl.len s1)))) ∧
((Rng .u32 (Sl.int (Sl.part s4 0 (Sl.len s1)) ((Sl.len (Sl.part s4 0 (Sl.len s1))) - 1) 0)) →
((Sl.int (Sl.part s4 0 (Sl.len s1)) ((Sl.len (Sl.part s4 0 (Sl.len s1))) - 1) 0) ≠ 0) ∧
((Sl.int (Sl.part s4 0 (Sl.len s1)) ((Sl.len (Sl.part s4 0 (Sl.len s1))) - 1) 0) ≠ 0) ∧
(Rng .u64 (Int.tmod (IntKind.wrap .u64 (bor .u64 (IntKind.wrap .u64 (shl .u64 (Sl.int s7 (x8 + (Sl.len (Sl.part s4 0 (Sl.len s1)))) 0) 32)) (Sl.int s7 (x8 + ((Sl.len (Sl.part s4 0 (Sl.len s1))) - 1)) 0))) (Sl.int (Sl.part s4 0 (Sl.len s1)) ((Sl.len (Sl.part s4 0 (Sl.len s1))) - 1) 0))) ∧
(∃ J10 : Int → Int → Prop,
(((∃ (J11 : Int → Int → Prop) (M11 : Int → Int → Nat), J11 (IntKind.wrap .u64 (Int.tdiv (IntKind.wrap .u64 (bor .u64 (IntKind.wrap .u64 (shl .u64 (Sl.int s7 (x8 + (Sl.len (Sl.part s4 0 (Sl.len s1)))) 0) 32)) (Sl.int s7 (x8 + ((Sl.len (Sl.part s4 0 (Sl.len s1))) - 1)) 0))) (Sl.int (Sl.part s4 0 (Sl.len s1)) ((Sl.len (Sl.part s4 0 (Sl.len s1))) - 1) 0))) (Int.tmod (IntKind.wrap .u64 (bor .u64 (IntKind.wrap .u64 (shl .u64 (Sl.int s7 (x8 + (Sl.len (Sl.part s4 0 (Sl.len s1)))) 0) 32)) (Sl.int s7 (x8 + ((Sl.len (Sl.part s4 0 (Sl.len s1))) - 1)) 0))) (Sl.int (Sl.part s4 0 (Sl.len s1)) ((Sl.len (Sl.part s4 0 (Sl.len s1))) - 1) 0)) ∧
(∀ x12 : Int,
((Rng .u64 x12) →
(∀ x13 : Int,
((Rng .u64 x13) →
(J11 x12 x13 →
(((x12 ≥ 4294967296) →
((((IntKind.wrap .u64 (x13 + (Sl.int (Sl.part s4 0 (Sl.len s1)) ((Sl.len (Sl.part s4 0 (Sl.len s1))) - 1) 0))) ≥ 4294967296) → J10 (IntKind.wrap .u64 (x12 - 1)) (IntKind.wrap .u64 (x13 + (Sl.int (Sl.part s4 0 (Sl.len s1)) ((Sl.len (Sl.part s4 0 (Sl.len s1))) - 1) 0)))) ∧
(¬ ((IntKind.wrap .u64 (x13 + (Sl.int (Sl.part s4 0 (Sl.len s1)) ((Sl.len (Sl.part s4 0 (Sl.len s1))) - 1) 0))) ≥ 4294967296) →
(J11 (IntKind.wrap .u64 (x12 - 1)) (IntKind.wrap .u64 (x13 + (Sl.int (Sl.part s4 0 (Sl.len s1)) ((Sl.len (Sl.part s4 0 (Sl.len s1))) - 1) 0))) ∧ M11 (IntKind.wrap .u64 (x12 - 1)) (IntKind.wrap .u64 (x13 + (Sl.int (Sl.part s4 0 (Sl.len s1)) ((Sl.len (Sl.part s4 0 (Sl.len s1))) - 1) 0))) < M11 x12 x13)))) ∧
(¬ (x12 ≥ 4294967296) →
(Rng .i64 ((Sl.len (Sl.part s4 0 (Sl.len s1))) - 2)) ∧
((0 : Int) ≤ ((Sl.len (Sl.part s4 0 (Sl.len s1))) - 2)) ∧
(((Sl.len (Sl.part s4 0 (Sl.len s1))) - 2) < (Sl.len (Sl.part s4 0 (Sl.len s1)))) ∧
((Rng .u32 (Sl.int (Sl.part s4 0 (Sl.len s1)) ((Sl.len (Sl.part s4 0 (Sl.len s1))) - 2) 0)) →
((0 : Int) ≤ 32) ∧
(Rng .i64 ((Sl.len (Sl.part s4 0 (Sl.len s1))) - 2)) ∧
((0 : Int) ≤ ((Sl.len (Sl.part s4 0 (Sl.len s1))) - 2)) ∧
(((Sl.len (Sl.part s4 0 (Sl.len s1))) - 2) < (((x8 + (Sl.len s1)) + 1) - x8)) ∧
((Rng .u32 (Sl.int s7 (x8 + ((Sl.len (Sl.part s4 0 (Sl.len s1))) - 2)) 0)) →
((((IntKind.wrap .u64 (x12 * (Sl.int (Sl.part s4 0 (Sl.len s1)) ((Sl.len (Sl.part s4 0 (Sl.len s1))) - 2) 0))) > (IntKind.wrap .u64 (bor .u64 (IntKind.wrap .u64 (shl .u64 x13 32)) (Sl.int s7 (x8 + ((Sl.len (Sl.part s4 0 (Sl.len s1))) - 2)) 0)))) →
((((IntKind.wrap .u64 (x13 + (Sl.int (Sl.part s4 0 (Sl.len s1)) ((Sl.len (Sl.part s4 0 (Sl.len s1))) - 1) 0))) ≥ 4294967296) → J10 (IntKind.wrap .u64 (x12 - 1)) (IntKind.wrap .u64 (x13 + (Sl.int (Sl.part s4 0 (Sl.len s1)) ((Sl.len (Sl.part s4 0 (Sl.len s1))) - 1) 0)))) ∧
(¬ ((IntKind.wrap .u64 (x13 + (Sl.int (Sl.part s4 0 (Sl.len s1)) ((Sl.len (Sl.part s4 0 (Sl.len s1))) - 1) 0))) ≥ 4294967296) →
(J11 (IntKind.wrap .u64 (x12 - 1)) (IntKind.wrap .u64 (x13 + (Sl.int (Sl.part s4 0 (Sl.len s1)) ((Sl.len (Sl.part s4 0 (Sl.len s1))) - 1) 0))) ∧ M11 (IntKind.wrap .u64 (x12 - 1)) (IntKind.wrap .u64 (x13 + (Sl.int (Sl.part s4 0 (Sl.len s1)) ((Sl.len (Sl.part s4 0 (Sl.len s1))) - 1) 0))) < M11 x12 x13)))) ∧
(¬ ((IntKind.wrap .u64 (x12 * (Sl.int (Sl.part s4 0 (Sl.len s1)) ((Sl.len (Sl.part s4 0 (Sl.len s1))) - 2) 0))) > (IntKind.wrap .u64 (bor .u64 (IntKind.wrap .u64 (shl .u64 x13 32)) (Sl.int s7 (x8 + ((Sl.len (Sl.part s4 0 (Sl.len s1))) - 2)) 0)))) → J10 x12 x13))))))))))))) ∧
((∀ x11 : Int,
((Rng .u64 x11) →
(∀ x12 : Int,
((Rng .u64 x12) →
(J10 x11 x12 →
((Small (Sl.part s4 0 (Sl.len s1))) →
(∃ (J13 : Sl → Int → Int → Int → Prop) (M13 : Sl → Int → Int → Int → Nat), J13 s7 0 0 0 ∧
(∀ s14 : Sl,
((Ranged s14 [some .u32]) →
(∀ x15 : Int,
((Rng .u64 x15) →
(∀ x16 : Int,
((Rng .u64 x16) →
(∀ x17 : Int,
((Rng .i64 x17) →
(J13 s14 x15 x16 x17 →
(((x17 < (Sl.len (Sl.part s4 0 (Sl.len s1)))) →
((0 : Int) ≤ x17) ∧
(x17 < (Sl.len (Sl.part s4 0 (Sl.len s1)))) ∧
((Rng .u32 (Sl.int (Sl.part s4 0 (Sl.len s1)) x17 0)) →
((0 : Int) ≤ 32) ∧
(Rng .u64 (shr .u64 (IntKind.wrap .u64 ((IntKind.wrap .u64 (x11 * (Sl.int (Sl.part s4 0 (Sl.len s1)) x17 0))) + x15)) 32)) ∧
((0 : Int) ≤ x17) ∧
(x17 < (((x8 + (Sl.len s1)) + 1) - x8)) ∧
((Rng .u32 (Sl.int s14 (x8 + x17) 0)) →
((0 : Int) ≤ x17) ∧
(x17 < (((x8 + (Sl.len s1)) + 1) - x8)) ∧
((0 : Int) ≤ 63) ∧
(Rng .u64 (shr .u64 (IntKind.wrap .u64 ((IntKind.wrap .u64 ((Sl.int s14 (x8 + x17) 0) - (IntKind.wrap .u32 (IntKind.wrap .u64 ((IntKind.wrap .u64 (x11 * (Sl.int (Sl.part s4 0 (Sl.len s1)) x17 0))) + x15))))) - x16)) 63)) ∧
(Rng .i64 (x17 + 1)) ∧
(J13 (Sl.upd s14 (x8 + x17) 0 [(.int (IntKind.wrap .u32 (IntKind.wrap .u64 ((IntKind.wrap .u64 ((Sl.int s14 (x8 + x17) 0) - (IntKind.wrap .u32 (IntKind.wrap .u64 ((IntKind.wrap .u64 (x11 * (Sl.int (Sl.part s4 0 (Sl.len s1)) x17 0))) + x15))))) - x16))))]) (shr .u64 (IntKind.wrap .u64 ((IntKind.wrap .u64 (x11 * (Sl.int (Sl.part s4 0 (Sl.len s1)) x17 0))) + x15)) 32) (shr .u64 (IntKind.wrap .u64 ((IntKind.wrap .u64 ((Sl.int s14 (x8 + x17) 0) - (IntKind.wrap .u32 (IntKind.wrap .u64 ((IntKind.wrap .u64 (x11 * (Sl.int (Sl.part s4 0 (Sl.len s1)) x17 0))) + x15))))) - x16)) 63) (x17 + 1) ∧ M13 (Sl.upd s14 (x8 + x17) 0 [(.int (IntKind.wrap .u32 (IntKind.wrap .u64 ((IntKind.wrap .u64 ((Sl.int s14 (x8 + x17) 0) - (IntKind.wrap .u32 (IntKind.wrap .u64 ((IntKind.wrap .u64 (x11 * (Sl.int (Sl.part s4 0 (Sl.len s1)) x17 0))) + x15))))) - x16))))]) (shr .u64 (IntKind.wrap .u64 ((IntKind.wrap .u64 (x11 * (Sl.int (Sl.part s4 0 (Sl.len s1)) x17 0))) + x15)) 32) (shr .u64 (IntKind.wrap .u64 ((IntKind.wrap .u64 ((Sl.int s14 (x8 + x17) 0) - (IntKind.wrap .u32 (IntKind.wrap .u64 ((IntKind.wrap .u64 (x11 * (Sl.int (Sl.part s4 0 (Sl.len s1)) x17 0))) + x15))))) - x16)) 63) (x17 + 1) < M13 s14 x15 x16 x17)))) ∧
(¬ (x17 < (Sl.len (Sl.part s4 0 (Sl.len s1)))) →
((0 : Int) ≤ (Sl.len (Sl.part s4 0 (Sl.len s1)))) ∧
((Sl.len (Sl.part s4 0 (Sl.len s1))) < (((x8 + (Sl.len s1)) + 1) - x8)) ∧
((Rng .u32 (Sl.int s14 (x8 + (Sl.len (Sl.part s4 0 (Sl.len s1)))) 0)) →
((0 : Int) ≤ (Sl.len (Sl.part s4 0 (Sl.len s1)))) ∧
((Sl.len (Sl.part s4 0 (Sl.len s1))) < (((x8 + (Sl.len s1)) + 1) - x8)) ∧
((0 : Int) ≤ 63) ∧
(Rng .u64 (shr .u64 (IntKind.wrap .u64 ((IntKind.wrap .u64 ((Sl.int s14 (x8 + (Sl.len (Sl.part s4 0 (Sl.len s1)))) 0) - x15)) - x16)) 63)) ∧
((((shr .u64 (IntKind.wrap .u64 ((IntKind.wrap .u64 ((Sl.int s14 (x8 + (Sl.len (Sl.part s4 0 (Sl.len s1)))) 0) - x15)) - x16)) 63) = 0) →
((0 : Int) ≤ x8) ∧
(x8 < (Sl.len s9)) ∧
(Rng .i64 (x8 - 1)) ∧
(J6 (Sl.upd s14 (x8 + (Sl.len (Sl.part s4 0 (Sl.len s1)))) 0 [(.int (IntKind.wrap .u32 (IntKind.wrap .u64 ((IntKind.wrap .u64 ((Sl.int s14 (x8 + (Sl.len (Sl.part s4 0 (Sl.len s1)))) 0) - x15)) - x16))))]) (x8 - 1) (Sl.upd s9 x8 0 [(.int (IntKind.wrap .u32 x11))]) ∧ M6 (Sl.upd s14 (x8 + (Sl.len (Sl.part s4 0 (Sl.len s1)))) 0 [(.int (IntKind.wrap .u32 (IntKind.wrap .u64 ((IntKind.wrap .u64 ((Sl.int s14 (x8 + (Sl.len (Sl.part s4 0 (Sl.len s1)))) 0) - x15)) - x16))))]) (x8 - 1) (Sl.upd s9 x8 0 [(.int (IntKind.wrap .u32 x11))]) < M6 s7 x8 s9)) ∧
(¬ ((shr .u64 (IntKind.wrap .u64 ((IntKind.wrap .u64 ((Sl.int s14 (x8 + (Sl.len (Sl.part s4 0 (Sl.len s1)))) 0) - x15)) - x16)) 63) = 0) →
((Small (Sl.part s4 0 (Sl.len s1))) →
(∃ (J18 : Sl → Int → Int → Prop) (M18 : Sl → Int → Int → Nat), J18 (Sl.upd s14 (x8 + (Sl.len (Sl.part s4 0 (Sl.len s1)))) 0 [(.int (IntKind.wrap .u32 (IntKind.wrap .u64 ((IntKind.wrap .u64 ((Sl.int s14 (x8 + (Sl.len (Sl.part s4 0 (Sl.len s1)))) 0) - x15)) - x16))))]) 0 0 ∧
(∀ s19 : Sl,
((Ranged s19 [some .u32]) →
(∀ x20 : Int,
((Rng .u32 x20) →
(∀ x21 : Int,
((Rng .i64 x21) →
(J18 s19 x20 x21 →
(((x21 < (Sl.len (Sl.part s4 0 (Sl.len s1)))) →
((0 : Int) ≤ x21) ∧
(x21 < (Sl.len (Sl.part s4 0 (Sl.len s1)))) ∧
((Rng .u32 (Sl.int (Sl.part s4 0 (Sl.len s1)) x21 0)) →
((0 : Int) ≤ x21) ∧
(x21 < (((x8 + (Sl.len s1)) + 1) - x8)) ∧
((Rng .u32 (Sl.int s19 (x8 + x21) 0)) →
(p_Add32 (Sl.int s19 (x8 + x21) 0) (Sl.int (Sl.part s4 0 (Sl.len s1)) x21 0) x20) ∧
(∀ x22 : Int,
((Rng .u32 x22) →
(∀ x23 : Int,
((Rng .u32 x23) →
((q_Add32 (Sl.int s19 (x8 + x21) 0) (Sl.int (Sl.part s4 0 (Sl.len s1)) x21 0) x20 x22 x23) →
((0 : Int) ≤ x21) ∧
(x21 < (((x8 + (Sl.len s1)) + 1) - x8)) ∧
(Rng .i64 (x21 + 1)) ∧
(J18 (Sl.upd s19 (x8 + x21) 0 [(.int x22)]) x23 (x21 + 1) ∧ M18 (Sl.upd s19 (x8 + x21) 0 [(.int x22)]) x23 (x21 + 1) < M18 s19 x20 x21))))))))) ∧
(¬ (x21 < (Sl.len (Sl.part s4 0 (Sl.len s1)))) →
((0 : Int) ≤ (Sl.len (Sl.part s4 0 (Sl.len s1)))) ∧
((Sl.len (Sl.part s4 0 (Sl.len s1))) < (((x8 + (Sl.len s1)) + 1) - x8)) ∧
((Rng .u32 (Sl.int s19 (x8 + (Sl.len (Sl.part s4 0 (Sl.len s1)))) 0)) →
((0 : Int) ≤ (Sl.len (Sl.part s4 0 (Sl.len s1)))) ∧
((Sl.len (Sl.part s4 0 (Sl.len s1))) < (((x8 + (Sl.len s1)) + 1) - x8)) ∧
((0 : Int) ≤ x8) ∧
(x8 < (Sl.len s9)) ∧
(Rng .i64 (x8 - 1)) ∧
(J6 (Sl.upd s19 (x8 + (Sl.len (Sl.part s4 0 (Sl.len s1)))) 0 [(.int (IntKind.wrap .u32 ((Sl.int s19 (x8 + (Sl.len (Sl.part s4 0 (Sl.len s1)))) 0) + x20)))]) (x8 - 1) (Sl.upd s9 x8 0 [(.int (IntKind.wrap .u32 (IntKind.wrap .u64 (x11 - 1))))]) ∧ M6 (Sl.upd s19 (x8 + (Sl.len (Sl.part s4 0 (Sl.len s1)))) 0 [(.int (IntKind.wrap .u32 ((Sl.int s19 (x8 + (Sl.len (Sl.part s4 0 (Sl.len s1)))) 0) + x20)))]) (x8 - 1) (Sl.upd s9 x8 0 [(.int (IntKind.wrap .u32 (IntKind.wrap .u64 (x11 - 1))))]) < M6 s7 x8 s9)))))))))))))))))))))))))))))))))))))))))) ∧
(¬ (x8 ≥ 0) →
(∃ (J10 : Int → Sl → Prop) (M10 : Int → Sl → Nat), J10 0 s7 ∧
(∀ x11 : Int,
((Rng .i64 x11) →
(∀ s12 : Sl,
((Ranged s12 [some .u32]) →
(J10 x11 s12 →
(((x11 < (Sl.len s1)) →
(Rng .i64 (x11 + 1)) ∧
((((0 : Int) ≤ (x11 + 1)) ∧
((x11 + 1) < (Sl.len s12)) ∧
((((Rng .u32 (Sl.int s12 (x11 + 1) 0)) →
((0 : Int) ≤ 32) ∧
((0 : Int) ≤ x11) ∧
(x11 < (Sl.len s12)) ∧
((Rng .u32 (Sl.int s12 x11 0)) →
((0 : Int) ≤ x3) ∧
(Rng .u64 (shr .u64 (IntKind.wrap .u64 (bor .u64 (IntKind.wrap .u64 (shl .u64 (Sl.int s12 (x11 + 1) 0) 32)) (Sl.int s12 x11 0))) x3)) ∧
((0 : Int) ≤ x11) ∧
(x11 < (Sl.len s12)) ∧
(Rng .i64 (x11 + 1)) ∧
(J10 (x11 + 1) (Sl.upd s12 x11 0 [(.int (IntKind.wrap .u32 (shr .u64 (IntKind.wrap .u64 (bor .u64 (IntKind.wrap .u64 (shl .u64 (Sl.int s12 (x11 + 1) 0) 32)) (Sl.int s12 x11 0))) x3)))]) ∧ M10 (x11 + 1) (Sl.upd s12 x11 0 [(.int (IntKind.wrap .u32 (shr .u64 (IntKind.wrap .u64 (bor .u64 (IntKind.wrap .u64 (shl .u64 (Sl.int s12 (x11 + 1) 0) 32)) (Sl.int s12 x11 0))) x3)))]) < M10 x11 s12)))) ∧
(((0 : Int) ≤ x11) ∧
(x11 < (Sl.len s12)) ∧
((((Rng .u32 (Sl.int s12 (x11 + 1) 0)) →
((0 : Int) ≤ 32) ∧
((Rng .u32 (Sl.int s12 x11 0)) →
((0 : Int) ≤ x3) ∧
(Rng .u64 (shr .u64 (IntKind.wrap .u64 (bor .u64 (IntKind.wrap .u64 (shl .u64 (Sl.int s12 (x11 + 1) 0) 32)) (Sl.int s12 x11 0))) x3)) ∧
((0 : Int) ≤ x11) ∧
(x11 < (Sl.len s12)) ∧
(Rng .i64 (x11 + 1)) ∧
(J10 (x11 + 1) (Sl.upd s12 x11 0 [(.int (IntKind.wrap .u32 (shr .u64 (IntKind.wrap .u64 (bor .u64 (IntKind.wrap .u64 (shl .u64 (Sl.int s12 (x11 + 1) 0) 32)) (Sl.int s12 x11 0))) x3)))]) ∧ M10 (x11 + 1) (Sl.upd s12 x11 0 [(.int (IntKind.wrap .u32 (shr .u64 (IntKind.wrap .u64 (bor .u64 (IntKind.wrap .u64 (shl .u64 (Sl.int s12 (x11 + 1) 0) 32)) (Sl.int s12 x11 0))) x3)))]) < M10 x11 s12)))) ∧
(((Rng .u32 (Sl.int s12 x11 0)) →
((Rng .u32 (Sl.int s12 (x11 + 1) 0)) →
((0 : Int) ≤ 32) ∧
((0 : Int) ≤ x3) ∧
(Rng .u64 (shr .u64 (IntKind.wrap .u64 (bor .u64 (IntKind.wrap .u64 (shl .u64 (Sl.int s12 (x11 + 1) 0) 32)) (Sl.int s12 x11 0))) x3)) ∧
((0 : Int) ≤ x11) ∧
(x11 < (Sl.len s12)) ∧
(Rng .i64 (x11 + 1)) ∧
(J10 (x11 + 1) (Sl.upd s12 x11 0 [(.int (IntKind.wrap .u32 (shr .u64 (IntKind.wrap .u64 (bor .u64 (IntKind.wrap .u64 (shl .u64 (Sl.int s12 (x11 + 1) 0) 32)) (Sl.int s12 x11 0))) x3)))]) ∧ M10 (x11 + 1) (Sl.upd s12 x11 0 [(.int (IntKind.wrap .u32 (shr .u64 (IntKind.wrap .u64 (bor .u64 (IntKind.wrap .u64 (shl .u64 (Sl.int s12 (x11 + 1) 0) 32)) (Sl.int s12 x11 0))) x3)))]) < M10 x11 s12)))))))) ∧
(((0 : Int) ≤ x11) ∧
(x11 < (Sl.len s12)) ∧
((((0 : Int) ≤ (x11 + 1)) ∧
((x11 + 1) < (Sl.len s12)) ∧
((((Rng .u32 (Sl.int s12 (x11 + 1) 0)) →
((0 : Int) ≤ 32) ∧
((Rng .u32 (Sl.int s12 x11 0)) →
((0 : Int) ≤ x3) ∧
(Rng .u64 (shr .u64 (IntKind.wrap .u64 (bor .u64 (IntKind.wrap .u64 (shl .u64 (Sl.int s12 (x11 + 1) 0) 32)) (Sl.int s12 x11 0))) x3)) ∧
((0 : Int) ≤ x11) ∧
(x11 < (Sl.len s12)) ∧
(Rng .i64 (x11 + 1)) ∧
(J10 (x11 + 1) (Sl.upd s12 x11 0 [(.int (IntKind.wrap .u32 (shr .u64 (IntKind.wrap .u64 (bor .u64 (IntKind.wrap .u64 (shl .u64 (Sl.int s12 (x11 + 1) 0) 32)) (Sl.int s12 x11 0))) x3)))]) ∧ M10 (x11 + 1) (Sl.upd s12 x11 0 [(.int (IntKind.wrap .u32 (shr .u64 (IntKind.wrap .u64 (bor .u64 (IntKind.wrap .u64 (shl .u64 (Sl.int s12 (x11 + 1) 0) 32)) (Sl.int s12 x11 0))) x3)))]) < M10 x11 s12)))) ∧
(((Rng .u32 (Sl.int s12 x11 0)) →
((Rng .u32 (Sl.int s12 (x11 + 1) 0)) →
((0 : Int) ≤ 32) ∧
((0 : Int) ≤ x3) ∧
(Rng .u64 (shr .u64 (IntKind.wrap .u64 (bor .u64 (IntKind.wrap .u64 (shl .u64 (Sl.int s12 (x11 + 1) 0) 32)) (Sl.int s12 x11 0))) x3)) ∧
((0 : Int) ≤ x11) ∧
(x11 < (Sl.len s12)) ∧
(Rng .i64 (x11 + 1)) ∧
(J10 (x11 + 1) (Sl.upd s12 x11 0 [(.int (IntKind.wrap .u32 (shr .u64 (IntKind.wrap .u64 (bor .u64 (IntKind.wrap .u64 (shl .u64 (Sl.int s12 (x11 + 1) 0) 32)) (Sl.int s12 x11 0))) x3)))]) ∧ M10 (x11 + 1) (Sl.upd s12 x11 0 [(.int (IntKind.wrap .u32 (shr .u64 (IntKind.wrap .u64 (bor .u64 (IntKind.wrap .u64 (shl .u64 (Sl.int s12 (x11 + 1) 0) 32)) (Sl.int s12 x11 0))) x3)))]) < M10 x11 s12)))))) ∧
(((Rng .u32 (Sl.int s12 x11 0)) →
((0 : Int) ≤ (x11 + 1)) ∧
((x11 + 1) < (Sl.len s12)) ∧
((Rng .u32 (Sl.int s12 (x11 + 1) 0)) →
((0 : Int) ≤ 32) ∧
((0 : Int) ≤ x3) ∧
(Rng .u64 (shr .u64 (IntKind.wrap .u64 (bor .u64 (IntKind.wrap .u64 (shl .u64 (Sl.int s12 (x11 + 1) 0) 32)) (Sl.int s12 x11 0))) x3)) ∧
((0 : Int) ≤ x11) ∧
(x11 < (Sl.len s12)) ∧
(Rng .i64 (x11 + 1)) ∧
(J10 (x11 + 1) (Sl.upd s12 x11 0 [(.int (IntKind.wrap .u32 (shr .u64 (IntKind.wrap .u64 (bor .u64 (IntKind.wrap .u64 (shl .u64 (Sl.int s12 (x11 + 1) 0) 32)) (Sl.int s12 x11 0))) x3)))]) ∧ M10 (x11 + 1) (Sl.upd s12 x11 0 [(.int (IntKind.wrap .u32 (shr .u64 (IntKind.wrap .u64 (bor .u64 (IntKind.wrap .u64 (shl .u64 (Sl.int s12 (x11 + 1) 0) 32)) (Sl.int s12 x11 0))) x3)))]) < M10 x11 s12)))))))) ∧
(¬ (x11 < (Sl.len s1)) →
(((p_trim s9) ∧
(∀ s13 : Sl,
((Ranged s13 [some .u32]) →
((q_trim s9 s13) →
((0 : Int) ≤ 0) ∧
((0 : Int) ≤ (Sl.len s1)) ∧
((Sl.len s1) ≤ (Sl.len s12)) ∧
(p_trim (Sl.part s12 0 (Sl.len s1))) ∧
(∀ s14 : Sl,
((Ranged s14 [some .u32]) →
((q_trim (Sl.part s12 0 (Sl.len s1)) s14) →
(q_divide s0 s1 s13 s14) ∧ True))))))) ∧
(((0 : Int) ≤ 0) ∧
((0 : Int) ≤ (Sl.len s1)) ∧
((Sl.len s1) ≤ (Sl.len s12)) ∧
(p_trim s9) ∧
(∀ s13 : Sl,
((Ranged s13 [some .u32]) →
((q_trim s9 s13) →
(p_trim (Sl.part s12 0 (Sl.len s1))) ∧
(∀ s14 : Sl,
((Ranged s14 [some .u32]) →
((q_trim (Sl.part s12 0 (Sl.len s1)) s14) →
(q_divide s0 s1 s13 s14) ∧ True))))))))))))))))))))))))))))))))))))))))))))))))))))
def V_head : Prop :=
(∀ s0 : Sl,
((Ranged s0 [some .u32]) →
(∀ x1 : Int,
((Rng .i64 x1) →
(∀ x2 : Int,
((Rng .i64 x2) →
((p_head s0 x1 x2) →
(Rng .i64 (x1 - 1)) ∧
(Rng .i64 (x1 - 2)) ∧
(Rng .i64 (x1 - 3)) ∧
(Rng .i64 (32 - x2)) ∧
((Small s0) →
((((x1 - 1) ≥ (Sl.len s0)) →
((0 : Int) ≤ 32) ∧
((Small s0) →
((((x1 - 2) ≥ (Sl.len s0)) →
((0 : Int) ≤ x2) ∧
((Small s0) →
((((x1 - 3) ≥ (Sl.len s0)) →
((0 : Int) ≤ (32 - x2)) ∧
(Rng .u64 (shr .u64 0 (32 - x2))) ∧
(q_head s0 x1 x2 (IntKind.wrap .u64 (bor .u64 (IntKind.wrap .u64 (shl .u64 (IntKind.wrap .u64 (bor .u64 (IntKind.wrap .u64 (shl .u64 0 32)) 0)) x2)) (shr .u64 0 (32 - x2))))) ∧ True) ∧
(¬ ((x1 - 3) ≥ (Sl.len s0)) →
((0 : Int) ≤ (x1 - 3)) ∧
((x1 - 3) < (Sl.len s0)) ∧
((Rng .u32 (Sl.int s0 (x1 - 3) 0)) →
((0 : Int) ≤ (32 - x2)) ∧
(Rng .u64 (shr .u64 (Sl.int s0 (x1 - 3) 0) (32 - x2))) ∧
(q_head s0 x1 x2 (IntKind.wrap .u64 (bor .u64 (IntKind.wrap .u64 (shl .u64 (IntKind.wrap .u64 (bor .u64 (IntKind.wrap .u64 (shl .u64 0 32)) 0)) x2)) (shr .u64 (Sl.int s0 (x1 - 3) 0) (32 - x2))))) ∧ True))))) ∧
(¬ ((x1 - 2) ≥ (Sl.len s0)) →
((0 : Int) ≤ (x1 - 2)) ∧
((x1 - 2) < (Sl.len s0)) ∧
((Rng .u32 (Sl.int s0 (x1 - 2) 0)) →
((0 : Int) ≤ x2) ∧
((Small s0) →
((((x1 - 3) ≥ (Sl.len s0)) →
((0 : Int) ≤ (32 - x2)) ∧
(Rng .u64 (shr .u64 0 (32 - x2))) ∧
(q_head s0 x1 x2 (IntKind.wrap .u64 (bor .u64 (IntKind.wrap .u64 (shl .u64 (IntKind.wrap .u64 (bor .u64 (IntKind.wrap .u64 (shl .u64 0 32)) (Sl.int s0 (x1 - 2) 0))) x2)) (shr .u64 0 (32 - x2))))) ∧ True) ∧
(¬ ((x1 - 3) ≥ (Sl.len s0)) →
((0 : Int) ≤ (x1 - 3)) ∧
((x1 - 3) < (Sl.len s0)) ∧
((Rng .u32 (Sl.int s0 (x1 - 3) 0)) →
((0 : Int) ≤ (32 - x2)) ∧
(Rng .u64 (shr .u64 (Sl.int s0 (x1 - 3) 0) (32 - x2))) ∧
(q_head s0 x1 x2 (IntKind.wrap .u64 (bor .u64 (IntKind.wrap .u64 (shl .u64 (IntKind.wrap .u64 (bor .u64 (IntKind.wrap .u64 (shl .u64 0 32)) (Sl.int s0 (x1 - 2) 0))) x2)) (shr .u64 (Sl.int s0 (x1 - 3) 0) (32 - x2))))) ∧ True))))))))) ∧
(¬ ((x1 - 1) ≥ (Sl.len s0)) →
((0 : Int) ≤ (x1 - 1)) ∧
((x1 - 1) < (Sl.len s0)) ∧
((Rng .u32 (Sl.int s0 (x1 - 1) 0)) →
((0 : Int) ≤ 32) ∧
((Small s0) →
((((x1 - 2) ≥ (Sl.len s0)) →
((0 : Int) ≤ x2) ∧
((Small s0) →
((((x1 - 3) ≥ (Sl.len s0)) →
((0 : Int) ≤ (32 - x2)) ∧
(Rng .u64 (shr .u64 0 (32 - x2))) ∧
(q_head s0 x1 x2 (IntKind.wrap .u64 (bor .u64 (IntKind.wrap .u64 (shl .u64 (IntKind.wrap .u64 (bor .u64 (IntKind.wrap .u64 (shl .u64 (Sl.int s0 (x1 - 1) 0) 32)) 0)) x2)) (shr .u64 0 (32 - x2))))) ∧ True) ∧
(¬ ((x1 - 3) ≥ (Sl.len s0)) →
((0 : Int) ≤ (x1 - 3)) ∧
((x1 - 3) < (Sl.len s0)) ∧
((Rng .u32 (Sl.int s0 (x1 - 3) 0)) →
((0 : Int) ≤ (32 - x2)) ∧
(Rng .u64 (shr .u64 (Sl.int s0 (x1 - 3) 0) (32 - x2))) ∧
(q_head s0 x1 x2 (IntKind.wrap .u64 (bor .u64 (IntKind.wrap .u64 (shl .u64 (IntKind.wrap .u64 (bor .u64 (IntKind.wrap .u64 (shl .u64 (Sl.int s0 (x1 - 1) 0) 32)) 0)) x2)) (shr .u64 (Sl.int s0 (x1 - 3) 0) (32 - x2))))) ∧ True))))) ∧
(¬ ((x1 - 2) ≥ (Sl.len s0)) →
((0 : Int) ≤ (x1 - 2)) ∧
((x1 - 2) < (Sl.len s0)) ∧
((Rng .u32 (Sl.int s0 (x1 - 2) 0)) →
((0 : Int) ≤ x2) ∧
((Small s0) →
((((x1 - 3) ≥ (Sl.len s0)) →
((0 : Int) ≤ (32 - x2)) ∧
(Rng .u64 (shr .u64 0 (32 - x2))) ∧
(q_head s0 x1 x2 (IntKind.wrap .u64 (bor .u64 (IntKind.wrap .u64 (shl .u64 (IntKind.wrap .u64 (bor .u64 (IntKind.wrap .u64 (shl .u64 (Sl.int s0 (x1 - 1) 0) 32)) (Sl.int s0 (x1 - 2) 0))) x2)) (shr .u64 0 (32 - x2))))) ∧ True) ∧
(¬ ((x1 - 3) ≥ (Sl.len s0)) →
((0 : Int) ≤ (x1 - 3)) ∧
((x1 - 3) < (Sl.len s0)) ∧
((Rng .u32 (Sl.int s0 (x1 - 3) 0)) →
((0 : Int) ≤ (32 - x2)) ∧
(Rng .u64 (shr .u64 (Sl.int s0 (x1 - 3) 0) (32 - x2))) ∧
(q_head s0 x1 x2 (IntKind.wrap .u64 (bor .u64 (IntKind.wrap .u64 (shl .u64 (IntKind.wrap .u64 (bor .u64 (IntKind.wrap .u64 (shl .u64 (Sl.int s0 (x1 - 1) 0) 32)) (Sl.int s0 (x1 - 2) 0))) x2)) (shr .u64 (Sl.int s0 (x1 - 3) 0) (32 - x2))))) ∧ True)))))))))))))))))))
def V_simulate : Prop :=
(∀ s0 : Sl,
((Ranged s0 [some .u32]) →
(∀ s1 : Sl,
((Ranged s1 [some .u32]) →
((p_simulate s0 s1) →
((Small s0) →
(Rng .i64 ((Sl.len s0) - 1)) ∧
((0 : Int) ≤ ((Sl.len s0) - 1)) ∧
(((Sl.len s0) - 1) < (Sl.len s0)) ∧
((Rng .u32 (Sl.int s0 ((Sl.len s0) - 1) 0)) →
(p_Lz32 (Sl.int s0 ((Sl.len s0) - 1) 0)) ∧
(∀ x2 : Int,
((Rng .i64 x2) →
((q_Lz32 (Sl.int s0 ((Sl.len s0) - 1) 0) x2) →
(p_head s0 (Sl.len s0) x2) ∧
(∀ x3 : Int,
((Rng .u64 x3) →
((q_head s0 (Sl.len s0) x2 x3) →
(p_head s1 (Sl.len s0) x2) ∧
(∀ x4 : Int,
((Rng .u64 x4) →
((q_head s1 (Sl.len s0) x2 x4) →
(∃ (J5 : Int → Int → Int → Int → Int → Int → Int → Int → Bool → Prop) (M5 : Int → Int → Int → Int → Int → Int → Int → Int → Bool → Nat), J5 x3 x4 0 1 0 1 0 0 (decide False) ∧
(∀ x6 : Int,
((Rng .u64 x6) →
(∀ x7 : Int,
((Rng .u64 x7) →
(∀ x8 : Int,
((Rng .u64 x8) →
(∀ x9 : Int,
((Rng .u64 x9) →
(∀ x10 : Int,
((Rng .u64 x10) →
(∀ x11 : Int,
((Rng .u64 x11) →
(∀ x12 : Int,
((Rng .u64 x12) →
(∀ x13 : Int,
((Rng .u64 x13) →
(∀ b14 : Bool,
(J5 x6 x7 x8 x9 x10 x11 x12 x13 (decide (b14 = true)) →
(((x7 ≥ x9) →
((((IntKind.wrap .u64 (x6 - x7)) ≥ (IntKind.wrap .u64 (x13 + x9))) →
(x7 ≠ 0) ∧
(x7 ≠ 0) ∧
(Rng .u64 (Int.tmod x6 x7)) ∧
(J5 x7 (Int.tmod x6 x7) (IntKind.wrap .u64 (x11 + (IntKind.wrap .u64 ((IntKind.wrap .u64 (Int.tdiv x6 x7)) * x8)))) (IntKind.wrap .u64 (x13 + (IntKind.wrap .u64 ((IntKind.wrap .u64 (Int.tdiv x6 x7)) * x9)))) x11 x8 x13 x9 (decide (¬ (b14 = true))) ∧ M5 x7 (Int.tmod x6 x7) (IntKind.wrap .u64 (x11 + (IntKind.wrap .u64 ((IntKind.wrap .u64 (Int.tdiv x6 x7)) * x8)))) (IntKind.wrap .u64 (x13 + (IntKind.wrap .u64 ((IntKind.wrap .u64 (Int.tdiv x6 x7)) * x9)))) x11 x8 x13 x9 (decide (¬ (b14 = true))) < M5 x6 x7 x8 x9 x10 x11 x12 x13 (decide (b14 = true)))) ∧
(¬ ((IntKind.wrap .u64 (x6 - x7)) ≥ (IntKind.wrap .u64 (x13 + x9))) →
(q_simulate s0 s1 x10 x11 x12 x13 (decide (b14 = true))) ∧ True))) ∧
(¬ (x7 ≥ x9) →
(q_simulate s0 s1 x10 x11 x12 x13 (decide (b14 = true))) ∧ True)))))))))))))))))))))))))))))))))))))
def V_difference : Prop :=
(∀ x0 : Int,
((Rng .u64 x0) →
(∀ s1 : Sl,
((Ranged s1 [some .u32]) →
(∀ x2 : Int,
((Rng .u64 x2) →
(∀ s3 : Sl,
((Ranged s3 [some .u32]) →
((p_difference x0 s1 x2 s3) →
((Small s1) →
((Small s3) →
(Rng .i64 ((imax (Sl.len s1) (Sl.len s3)) + 1)) ∧
((0 : Int) ≤ ((imax (Sl.len s1) (Sl.len s3)) + 1)) ∧
(((imax (Sl.len s1) (Sl.len s3)) + 1) ≤ ((imax (Sl.len s1) (Sl.len s3)) + 1)) ∧
((((imax (Sl.len s1) (Sl.len s3)) + 1) * 4) ≤ 140737488355328) ∧
((Small (Sl.rep ((imax (Sl.len s1) (Sl.len s3)) + 1) [(.int 0)])) →
(∃ (J4 : Int → Int → Int → Int → Sl → Prop) (M4 : Int → Int → Int → Int → Sl → Nat), J4 0 0 0 0 (Sl.rep ((imax (Sl.len s1) (Sl.len s3)) + 1) [(.int 0)]) ∧
(∀ x5 : Int,
((Rng .u64 x5) →
(∀ x6 : Int,
((Rng .u64 x6) →
(∀ x7 : Int,
((Rng .u32 x7) →
(∀ x8 : Int,
((Rng .i64 x8) →
(∀ s9 : Sl,
((Ranged s9 [some .u32]) →
(J4 x5 x6 x7 x8 s9 →
(((x8 < (Sl.len (Sl.rep ((imax (Sl.len s1) (Sl.len s3)) + 1) [(.int 0)]))) →
(∃ J10 : Int → Prop,
((((Small s1) →
(((x8 < (Sl.len s1)) →
((0 : Int) ≤ x8) ∧
(x8 < (Sl.len s1)) ∧
((Rng .u32 (Sl.int s1 x8 0)) → J10 (IntKind.wrap .u64 (x5 + (IntKind.wrap .u64 (x0 * (Sl.int s1 x8 0))))))) ∧
(¬ (x8 < (Sl.len s1)) → J10 x5)))) ∧
((∀ x11 : Int,
((Rng .u64 x11) →
(J10 x11 →
(∃ J12 : Int → Prop,
((((Small s3) →
(((x8 < (Sl.len s3)) →
((0 : Int) ≤ x8) ∧
(x8 < (Sl.len s3)) ∧
((Rng .u32 (Sl.int s3 x8 0)) → J12 (IntKind.wrap .u64 (x6 + (IntKind.wrap .u64 (x2 * (Sl.int s3 x8 0))))))) ∧
(¬ (x8 < (Sl.len s3)) → J12 x6)))) ∧
((∀ x13 : Int,
((Rng .u64 x13) →
(J12 x13 →
(p_Sub32 (IntKind.wrap .u32 x11) (IntKind.wrap .u32 x13) x7) ∧
(∀ x14 : Int,
((Rng .u32 x14) →
(∀ x15 : Int,
((Rng .u32 x15) →
((q_Sub32 (IntKind.wrap .u32 x11) (IntKind.wrap .u32 x13) x7 x14 x15) →
((0 : Int) ≤ x8) ∧
(x8 < (Sl.len s9)) ∧
((0 : Int) ≤ 32) ∧
(Rng .u64 (shr .u64 x11 32)) ∧
((0 : Int) ≤ 32) ∧
(Rng .u64 (shr .u64 x13 32)) ∧
(Rng .i64 (x8 + 1)) ∧
(J4 (shr .u64 x11 32) (shr .u64 x13 32) x15 (x8 + 1) (Sl.upd s9 x8 0 [(.int x14)]) ∧ M4 (shr .u64 x11 32) (shr .u64 x13 32) x15 (x8 + 1) (Sl.upd s9 x8 0 [(.int x14)]) < M4 x5 x6 x7 x8 s9))))))))))))))))))) ∧
(¬ (x8 < (Sl.len (Sl.rep ((imax (Sl.len s1) (Sl.len s3)) + 1) [(.int 0)]))) →
(p_trim s9) ∧
(∀ s10 : Sl,
((Ranged s10 [some .u32]) →
((q_trim s9 s10) →
(q_difference x0 s1 x2 s3 s10) ∧ True)))))))))))))))))))))))))))))
def V_commonDivisor : Prop :=
(∀ s0 : Sl,
((Ranged s0 [some .u32]) →
(∀ s1 : Sl,
((Ranged s1 [some .u32]) →
((p_commonDivisor s0 s1) →
(∃ J2 : Sl → Sl → Prop,
(((p_compare s0 s1) ∧
(∀ x3 : Int,
((Rng .i64 x3) →
((q_compare s0 s1 x3) →
(((x3 < 0) → J2 s1 s0) ∧
(¬ (x3 < 0) → J2 s0 s1)))))) ∧
((∀ s3 : Sl,
((Ranged s3 [some .u32]) →
(∀ s4 : Sl,
((Ranged s4 [some .u32]) →
(J2 s3 s4 →
(∃ (J5 : Sl → Sl → Prop) (M5 : Sl → Sl → Nat), J5 s3 s4 ∧
(∀ s6 : Sl,
((Ranged s6 [some .u32]) →
(∀ s7 : Sl,
((Ranged s7 [some .u32]) →
(J5 s6 s7 →
((Small s7) →
((((Sl.len s7) > 2) →
(p_simulate s6 s7) ∧
(∀ x8 : Int,
((Rng .u64 x8) →
(∀ x9 : Int,
((Rng .u64 x9) →
(∀ x10 : Int,
((Rng .u64 x10) →
(∀ x11 : Int,
((Rng .u64 x11) →
(∀ b12 : Bool,
((q_simulate s6 s7 x8 x9 x10 x11 (decide (b12 = true))) →
(((x10 = 0) →
(p_divide s6 s7) ∧
(∀ s13 : Sl,
((Ranged s13 [some .u32]) →
(∀ s14 : Sl,
((Ranged s14 [some .u32]) →
((q_divide s6 s7 s13 s14) →
(J5 s7 s14 ∧ M5 s7 s14 < M5 s6 s7))))))) ∧
(¬ (x10 = 0) →
(((b12 = true) →
(p_difference x8 s6 x10 s7) ∧
(∀ s13 : Sl,
((Ranged s13 [some .u32]) →
((q_difference x8 s6 x10 s7 s13) →
(p_difference x11 s7 x9 s6) ∧
(∀ s14 : Sl,
((Ranged s14 [some .u32]) →
((q_difference x11 s7 x9 s6 s14) →
(J5 s13 s14 ∧ M5 s13 s14 < M5 s6 s7)))))))) ∧
(¬ (b12 = true) →
(p_difference x10 s7 x8 s6) ∧
(∀ s13 : Sl,
((Ranged s13 [some .u32]) →
((q_difference x10 s7 x8 s6 s13) →
(p_difference x9 s6 x11 s7) ∧
(∀ s14 : Sl,
((Ranged s14 [some .u32]) →
((q_difference x9 s6 x11 s7 s14) →
(J5 s13 s14 ∧ M5 s13 s14 < M5 s6 s7)))))))))))))))))))))) ∧
(¬ ((Sl.len s7) > 2) →
((Small s7) →
((((Sl.len s7) = 0) →
(q_commonDivisor s0 s1 s6) ∧ True) ∧
(¬ ((Sl.len s7) = 0) →
(∃ J8 : Sl → Sl → Prop,
((((Small s6) →
((((Sl.len s6) > 2) →
(p_divide s6 s7) ∧
(∀ s9 : Sl,
((Ranged s9 [some .u32]) →
(∀ s10 : Sl,
((Ranged s10 [some .u32]) →
((q_divide s6 s7 s9 s10) → J8 s7 s10)))))) ∧
(¬ ((Sl.len s6) > 2) → J8 s6 s7)))) ∧
((∀ s9 : Sl,
((Ranged s9 [some .u32]) →
(∀ s10 : Sl,
((Ranged s10 [some .u32]) →
(J8 s9 s10 →
(p_long s9) ∧
(∀ x11 : Int,
((Rng .u64 x11) →
((q_long s9 x11) →
(p_long s10) ∧
(∀ x12 : Int,
((Rng .u64 x12) →
((q_long s10 x12) →
(∃ (J13 : Int → Int → Prop) (M13 : Int → Int → Nat), J13 x11 x12 ∧
(∀ x14 : Int,
((Rng .u64 x14) →
(∀ x15 : Int,
((Rng .u64 x15) →
(J13 x14 x15 →
(((x15 ≠ 0) →
(x15 ≠ 0) ∧
(Rng .u64 (Int.tmod x14 x15)) ∧
(J13 x15 (Int.tmod x14 x15) ∧ M13 x15 (Int.tmod x14 x15) < M13 x14 x15)) ∧
(¬ (x15 ≠ 0) →
(p_short x14) ∧
(∀ s16 : Sl,
((Ranged s16 [some .u32]) →
((q_short x14 s16) →
(q_commonDivisor s0 s1 s16) ∧ True))))))))))))))))))))))))))))))))))))))))))))))))))
end Go.Sx.N
