/-
  The conditions of the functions. Conditions: none; printed by a program of our own.
-/
import Derived.Test.YtjbknheeiaaioaaTabSpec
set_option maxRecDepth 20000
namespace Go.Sx.N
def V_TWrong_0 (y4 : ByteArray) (b5 : Bool) (s6 : Sl) (x12 : Int) (x13 : Int) (x14 : Int) (b15 : Bool) (s16 : Sl) (b17 : Bool) (s18 : Sl) (J23 : ByteArray → Bool → Sl → Prop) : Prop :=
((((Sl.len (Sl.lit [])) + (Sl.len s6)) * 88) ≤ 140737488355328) ∧
((((Sl.len (Sl.app (Sl.lit []) s6)) + (Sl.len (Sl.lit [[(.int x12), (.int x13), (.int x14), (.bool (decide (b15 = true))), (Sl.d s16), (.bool (decide (b17 = true))), (Sl.d s18)]]))) * 88) ≤ 140737488355328) ∧ J23 y4 (decide (b5 = true)) (Sl.app (Sl.app (Sl.lit []) s6) (Sl.lit [[(.int x12), (.int x13), (.int x14), (.bool (decide (b15 = true))), (Sl.d s16), (.bool (decide (b17 = true))), (Sl.d s18)]]))
def V_TWrong_1 (y4 : ByteArray) (b5 : Bool) (s6 : Sl) (b7 : Bool) (s8 : Sl) (b9 : Bool) (s10 : Sl) (J27 : ByteArray → Bool → Sl → Prop) (b28 : Bool) (s29 : Sl) (b30 : Bool) (s31 : Sl) : Prop :=
((((Sl.len (Sl.app (Sl.lit [[(.int 100), (.int 0), (.int 3), (.bool (decide (b7 = true))), (Sl.d s8), (.bool (decide (b9 = true))), (Sl.d s10)]]) s6)) + (Sl.len (Sl.lit [[(.int 99), (.int 0), (.int 0), (.bool (decide (b28 = true))), (Sl.d s29), (.bool (decide (b30 = true))), (Sl.d s31)]]))) * 88) ≤ 140737488355328) ∧ J27 y4 (decide (b5 = true)) (Sl.app (Sl.app (Sl.lit [[(.int 100), (.int 0), (.int 3), (.bool (decide (b7 = true))), (Sl.d s8), (.bool (decide (b9 = true))), (Sl.d s10)]]) s6) (Sl.lit [[(.int 99), (.int 0), (.int 0), (.bool (decide (b28 = true))), (Sl.d s29), (.bool (decide (b30 = true))), (Sl.d s31)]]))
def V_TWrong : Prop :=
(∀ s0 : Sl,
((Ranged s0 [some .u8, some .u8, some .u8, some .u16]) →
(∀ x1 : Int,
((Rng .u8 x1) →
(∀ b2 : Bool,
((p_TWrong s0 x1 (decide (b2 = true))) →
(p_awake ) ∧
(∀ b3 : Bool,
((q_awake  (decide (b3 = true))) →
(((¬ (b3 = true)) →
(q_TWrong s0 x1 (decide (b2 = true)) (decide False)) ∧ True) ∧
(¬ (¬ (b3 = true)) →
(p_Built s0 (decide (b2 = true))) ∧
(∀ y4 : ByteArray,
(∀ b5 : Bool,
(∀ s6 : Sl,
((Ranged s6 [some .i64, some .i64, some .i64, none, none, none, none]) →
((q_Built s0 (decide (b2 = true)) y4 (decide (b5 = true)) s6) →
(p_kFrac 1 3) ∧
(∀ b7 : Bool,
(∀ s8 : Sl,
((Ranged s8 [some .u16]) →
(∀ b9 : Bool,
(∀ s10 : Sl,
((Ranged s10 [some .u16]) →
((q_kFrac 1 3 (decide (b7 = true)) s8 (decide (b9 = true)) s10) →
(∃ J11 : Int → Int → Int → Bool → Sl → Bool → Sl → Prop,
((((8 : Int) ≠ 0) ∧
(Rng .u8 (Int.tmod x1 8)) ∧
((((Int.tmod x1 8) = 0) → J11 2147483648 0 3 (decide (b7 = true)) s8 (decide (b9 = true)) s10) ∧
(¬ ((Int.tmod x1 8) = 0) →
((((Int.tmod x1 8) = 1) → J11 (-2147483649) 0 3 (decide (b7 = true)) s8 (decide (b9 = true)) s10) ∧
(¬ ((Int.tmod x1 8) = 1) →
((((Int.tmod x1 8) = 2) → J11 100 2147483648 3 (decide (b7 = true)) s8 (decide (b9 = true)) s10) ∧
(¬ ((Int.tmod x1 8) = 2) →
((((Int.tmod x1 8) = 3) → J11 100 0 65536 (decide (b7 = true)) s8 (decide (b9 = true)) s10) ∧
(¬ ((Int.tmod x1 8) = 3) →
((((Int.tmod x1 8) = 4) → J11 100 0 (-1) (decide (b7 = true)) s8 (decide (b9 = true)) s10) ∧
(¬ ((Int.tmod x1 8) = 4) →
((((Int.tmod x1 8) = 5) → J11 100 0 3 (decide False) Sl.nil (decide False) Sl.nil) ∧
(¬ ((Int.tmod x1 8) = 5) →
((((Int.tmod x1 8) = 6) → J11 100 0 3 (decide (b7 = true)) s8 (decide True) s10) ∧
(¬ ((Int.tmod x1 8) = 6) →
((((Int.tmod x1 8) = 7) → J11 100 (-2147483649) 3 (decide (b7 = true)) s8 (decide (b9 = true)) s10) ∧
(¬ ((Int.tmod x1 8) = 7) → J11 100 0 3 (decide (b7 = true)) s8 (decide (b9 = true)) s10))))))))))))))))) ∧
((∀ x12 : Int,
((Rng .i64 x12) →
(∀ x13 : Int,
((Rng .i64 x13) →
(∀ x14 : Int,
((Rng .i64 x14) →
(∀ b15 : Bool,
(∀ s16 : Sl,
((Ranged s16 [some .u16]) →
(∀ b17 : Bool,
(∀ s18 : Sl,
((Ranged s18 [some .u16]) →
(J11 x12 x13 x14 (decide (b15 = true)) s16 (decide (b17 = true)) s18 →
(p_Learn y4 (decide (b5 = true)) s6 x12 x13 x14 (decide (b15 = true)) s16 (decide (b17 = true)) s18) ∧
(∀ y19 : ByteArray,
(∀ b20 : Bool,
(∀ s21 : Sl,
((Ranged s21 [some .i64, some .i64, some .i64, none, none, none, none]) →
(∀ x22 : Int,
((Rng .i64 x22) →
((q_Learn y4 (decide (b5 = true)) s6 x12 x13 x14 (decide (b15 = true)) s16 (decide (b17 = true)) s18 y19 (decide (b20 = true)) s21 x22) →
(∃ J23 : ByteArray → Bool → Sl → Prop,
(((((((V_TWrong_0 y4 b5 s6 x12 x13 x14 b15 s16 b17 s18 J23)) ∧
((V_TWrong_0 y4 b5 s6 x12 x13 x14 b15 s16 b17 s18 J23)))) ∧
((V_TWrong_0 y4 b5 s6 x12 x13 x14 b15 s16 b17 s18 J23)))) ∧
((∀ y24 : ByteArray,
(∀ b25 : Bool,
(∀ s26 : Sl,
((Ranged s26 [some .i64, some .i64, some .i64, none, none, none, none]) →
(J23 y24 (decide (b25 = true)) s26 →
((((Sl.len (Sl.lit [[(.int 100), (.int 0), (.int 3), (.bool (decide (b7 = true))), (Sl.d s8), (.bool (decide (b9 = true))), (Sl.d s10)]])) + (Sl.len s6)) * 88) ≤ 140737488355328) ∧
(∃ J27 : ByteArray → Bool → Sl → Prop,
(((((p_kFrac 1 3) ∧
(∀ b28 : Bool,
(∀ s29 : Sl,
((Ranged s29 [some .u16]) →
(∀ b30 : Bool,
(∀ s31 : Sl,
((Ranged s31 [some .u16]) →
((q_kFrac 1 3 (decide (b28 = true)) s29 (decide (b30 = true)) s31) →
(V_TWrong_1 y4 b5 s6 b7 s8 b9 s10 J27 b28 s29 b30 s31))))))))) ∧
((p_kFrac 1 3) ∧
(∀ b28 : Bool,
(∀ s29 : Sl,
((Ranged s29 [some .u16]) →
(∀ b30 : Bool,
(∀ s31 : Sl,
((Ranged s31 [some .u16]) →
((q_kFrac 1 3 (decide (b28 = true)) s29 (decide (b30 = true)) s31) →
(((V_TWrong_1 y4 b5 s6 b7 s8 b9 s10 J27 b28 s29 b30 s31)) ∧
((V_TWrong_1 y4 b5 s6 b7 s8 b9 s10 J27 b28 s29 b30 s31))))))))))))) ∧
((∀ y28 : ByteArray,
(∀ b29 : Bool,
(∀ s30 : Sl,
((Ranged s30 [some .i64, some .i64, some .i64, none, none, none, none]) →
(J27 y28 (decide (b29 = true)) s30 →
(((x22 ≠ 2) →
(q_TWrong s0 x1 (decide (b2 = true)) (decide False)) ∧ True) ∧
(¬ (x22 ≠ 2) →
((Small s21) →
((((Sl.len s21) ≠ 0) →
(q_TWrong s0 x1 (decide (b2 = true)) (decide False)) ∧ True) ∧
(¬ ((Sl.len s21) ≠ 0) →
(((¬ (y19 = (bytes []))) →
(q_TWrong s0 x1 (decide (b2 = true)) (decide False)) ∧ True) ∧
(¬ (¬ (y19 = (bytes []))) →
(p_Right (decide (b2 = true)) x12 x13 x14 (decide (b15 = true)) s16 (decide (b17 = true)) s18) ∧
(∀ b31 : Bool,
((q_Right (decide (b2 = true)) x12 x13 x14 (decide (b15 = true)) s16 (decide (b17 = true)) s18 (decide (b31 = true))) →
(((b31 = true) →
(q_TWrong s0 x1 (decide (b2 = true)) (decide False)) ∧ True) ∧
(¬ (b31 = true) →
(p_tValid y4 (decide (b5 = true)) s6) ∧
(∀ b32 : Bool,
((q_tValid y4 (decide (b5 = true)) s6 (decide (b32 = true))) →
(((¬ (b32 = true)) →
(q_TWrong s0 x1 (decide (b2 = true)) (decide False)) ∧ True) ∧
(¬ (¬ (b32 = true)) →
((Small (Sl.lit [[(.str y24), (.bool (decide (b25 = true))), (Sl.d s26)], [(.str y28), (.bool (decide (b29 = true))), (Sl.d s30)], [(.str (bytes [])), (.bool (decide (b5 = true))), (Sl.d s6)], [(.str (bytes [97, 98, 99, 100, 101, 102, 103, 104, 105, 106, 107, 108, 109, 110, 111, 112, 113, 114, 115, 116, 117, 118, 119, 120, 121])), (.bool (decide (b5 = true))), (Sl.d s6)]])) →
(∃ (J33 : Int → Prop) (M33 : Int → Nat), J33 0 ∧
(∀ x34 : Int,
((Rng .i64 x34) →
(J33 x34 →
(((x34 < (Sl.len (Sl.lit [[(.str y24), (.bool (decide (b25 = true))), (Sl.d s26)], [(.str y28), (.bool (decide (b29 = true))), (Sl.d s30)], [(.str (bytes [])), (.bool (decide (b5 = true))), (Sl.d s6)], [(.str (bytes [97, 98, 99, 100, 101, 102, 103, 104, 105, 106, 107, 108, 109, 110, 111, 112, 113, 114, 115, 116, 117, 118, 119, 120, 121])), (.bool (decide (b5 = true))), (Sl.d s6)]]))) →
((0 : Int) ≤ x34) ∧
(x34 < (Sl.len (Sl.lit [[(.str y24), (.bool (decide (b25 = true))), (Sl.d s26)], [(.str y28), (.bool (decide (b29 = true))), (Sl.d s30)], [(.str (bytes [])), (.bool (decide (b5 = true))), (Sl.d s6)], [(.str (bytes [97, 98, 99, 100, 101, 102, 103, 104, 105, 106, 107, 108, 109, 110, 111, 112, 113, 114, 115, 116, 117, 118, 119, 120, 121])), (.bool (decide (b5 = true))), (Sl.d s6)]]))) ∧
((Ranged (Sl.sub (Sl.lit [[(.str y24), (.bool (decide (b25 = true))), (Sl.d s26)], [(.str y28), (.bool (decide (b29 = true))), (Sl.d s30)], [(.str (bytes [])), (.bool (decide (b5 = true))), (Sl.d s6)], [(.str (bytes [97, 98, 99, 100, 101, 102, 103, 104, 105, 106, 107, 108, 109, 110, 111, 112, 113, 114, 115, 116, 117, 118, 119, 120, 121])), (.bool (decide (b5 = true))), (Sl.d s6)]]) x34 2) [some .i64, some .i64, some .i64, none, none, none, none]) →
(p_View (Sl.str (Sl.lit [[(.str y24), (.bool (decide (b25 = true))), (Sl.d s26)], [(.str y28), (.bool (decide (b29 = true))), (Sl.d s30)], [(.str (bytes [])), (.bool (decide (b5 = true))), (Sl.d s6)], [(.str (bytes [97, 98, 99, 100, 101, 102, 103, 104, 105, 106, 107, 108, 109, 110, 111, 112, 113, 114, 115, 116, 117, 118, 119, 120, 121])), (.bool (decide (b5 = true))), (Sl.d s6)]]) x34 0) (decide (Sl.bool (Sl.lit [[(.str y24), (.bool (decide (b25 = true))), (Sl.d s26)], [(.str y28), (.bool (decide (b29 = true))), (Sl.d s30)], [(.str (bytes [])), (.bool (decide (b5 = true))), (Sl.d s6)], [(.str (bytes [97, 98, 99, 100, 101, 102, 103, 104, 105, 106, 107, 108, 109, 110, 111, 112, 113, 114, 115, 116, 117, 118, 119, 120, 121])), (.bool (decide (b5 = true))), (Sl.d s6)]]) x34 1 = true)) (Sl.sub (Sl.lit [[(.str y24), (.bool (decide (b25 = true))), (Sl.d s26)], [(.str y28), (.bool (decide (b29 = true))), (Sl.d s30)], [(.str (bytes [])), (.bool (decide (b5 = true))), (Sl.d s6)], [(.str (bytes [97, 98, 99, 100, 101, 102, 103, 104, 105, 106, 107, 108, 109, 110, 111, 112, 113, 114, 115, 116, 117, 118, 119, 120, 121])), (.bool (decide (b5 = true))), (Sl.d s6)]]) x34 2) 5) ∧
(∀ y35 : ByteArray,
(∀ b36 : Bool,
(∀ s37 : Sl,
((Ranged s37 [some .i64, some .i64, some .i64, none, none, none, none]) →
(∀ x38 : Int,
((Rng .i64 x38) →
((q_View (Sl.str (Sl.lit [[(.str y24), (.bool (decide (b25 = true))), (Sl.d s26)], [(.str y28), (.bool (decide (b29 = true))), (Sl.d s30)], [(.str (bytes [])), (.bool (decide (b5 = true))), (Sl.d s6)], [(.str (bytes [97, 98, 99, 100, 101, 102, 103, 104, 105, 106, 107, 108, 109, 110, 111, 112, 113, 114, 115, 116, 117, 118, 119, 120, 121])), (.bool (decide (b5 = true))), (Sl.d s6)]]) x34 0) (decide (Sl.bool (Sl.lit [[(.str y24), (.bool (decide (b25 = true))), (Sl.d s26)], [(.str y28), (.bool (decide (b29 = true))), (Sl.d s30)], [(.str (bytes [])), (.bool (decide (b5 = true))), (Sl.d s6)], [(.str (bytes [97, 98, 99, 100, 101, 102, 103, 104, 105, 106, 107, 108, 109, 110, 111, 112, 113, 114, 115, 116, 117, 118, 119, 120, 121])), (.bool (decide (b5 = true))), (Sl.d s6)]]) x34 1 = true)) (Sl.sub (Sl.lit [[(.str y24), (.bool (decide (b25 = true))), (Sl.d s26)], [(.str y28), (.bool (decide (b29 = true))), (Sl.d s30)], [(.str (bytes [])), (.bool (decide (b5 = true))), (Sl.d s6)], [(.str (bytes [97, 98, 99, 100, 101, 102, 103, 104, 105, 106, 107, 108, 109, 110, 111, 112, 113, 114, 115, 116, 117, 118, 119, 120, 121])), (.bool (decide (b5 = true))), (Sl.d s6)]]) x34 2) 5 y35 (decide (b36 = true)) s37 x38) →
(p_Look (Sl.str (Sl.lit [[(.str y24), (.bool (decide (b25 = true))), (Sl.d s26)], [(.str y28), (.bool (decide (b29 = true))), (Sl.d s30)], [(.str (bytes [])), (.bool (decide (b5 = true))), (Sl.d s6)], [(.str (bytes [97, 98, 99, 100, 101, 102, 103, 104, 105, 106, 107, 108, 109, 110, 111, 112, 113, 114, 115, 116, 117, 118, 119, 120, 121])), (.bool (decide (b5 = true))), (Sl.d s6)]]) x34 0) (decide (Sl.bool (Sl.lit [[(.str y24), (.bool (decide (b25 = true))), (Sl.d s26)], [(.str y28), (.bool (decide (b29 = true))), (Sl.d s30)], [(.str (bytes [])), (.bool (decide (b5 = true))), (Sl.d s6)], [(.str (bytes [97, 98, 99, 100, 101, 102, 103, 104, 105, 106, 107, 108, 109, 110, 111, 112, 113, 114, 115, 116, 117, 118, 119, 120, 121])), (.bool (decide (b5 = true))), (Sl.d s6)]]) x34 1 = true)) (Sl.sub (Sl.lit [[(.str y24), (.bool (decide (b25 = true))), (Sl.d s26)], [(.str y28), (.bool (decide (b29 = true))), (Sl.d s30)], [(.str (bytes [])), (.bool (decide (b5 = true))), (Sl.d s6)], [(.str (bytes [97, 98, 99, 100, 101, 102, 103, 104, 105, 106, 107, 108, 109, 110, 111, 112, 113, 114, 115, 116, 117, 118, 119, 120, 121])), (.bool (decide (b5 = true))), (Sl.d s6)]]) x34 2) 200 5) ∧
(∀ b39 : Bool,
(∀ s40 : Sl,
((Ranged s40 [some .u16]) →
(∀ b41 : Bool,
(∀ s42 : Sl,
((Ranged s42 [some .u16]) →
(∀ x43 : Int,
((Rng .i64 x43) →
((q_Look (Sl.str (Sl.lit [[(.str y24), (.bool (decide (b25 = true))), (Sl.d s26)], [(.str y28), (.bool (decide (b29 = true))), (Sl.d s30)], [(.str (bytes [])), (.bool (decide (b5 = true))), (Sl.d s6)], [(.str (bytes [97, 98, 99, 100, 101, 102, 103, 104, 105, 106, 107, 108, 109, 110, 111, 112, 113, 114, 115, 116, 117, 118, 119, 120, 121])), (.bool (decide (b5 = true))), (Sl.d s6)]]) x34 0) (decide (Sl.bool (Sl.lit [[(.str y24), (.bool (decide (b25 = true))), (Sl.d s26)], [(.str y28), (.bool (decide (b29 = true))), (Sl.d s30)], [(.str (bytes [])), (.bool (decide (b5 = true))), (Sl.d s6)], [(.str (bytes [97, 98, 99, 100, 101, 102, 103, 104, 105, 106, 107, 108, 109, 110, 111, 112, 113, 114, 115, 116, 117, 118, 119, 120, 121])), (.bool (decide (b5 = true))), (Sl.d s6)]]) x34 1 = true)) (Sl.sub (Sl.lit [[(.str y24), (.bool (decide (b25 = true))), (Sl.d s26)], [(.str y28), (.bool (decide (b29 = true))), (Sl.d s30)], [(.str (bytes [])), (.bool (decide (b5 = true))), (Sl.d s6)], [(.str (bytes [97, 98, 99, 100, 101, 102, 103, 104, 105, 106, 107, 108, 109, 110, 111, 112, 113, 114, 115, 116, 117, 118, 119, 120, 121])), (.bool (decide (b5 = true))), (Sl.d s6)]]) x34 2) 200 5 (decide (b39 = true)) s40 (decide (b41 = true)) s42 x43) →
(p_LookTwo (Sl.str (Sl.lit [[(.str y24), (.bool (decide (b25 = true))), (Sl.d s26)], [(.str y28), (.bool (decide (b29 = true))), (Sl.d s30)], [(.str (bytes [])), (.bool (decide (b5 = true))), (Sl.d s6)], [(.str (bytes [97, 98, 99, 100, 101, 102, 103, 104, 105, 106, 107, 108, 109, 110, 111, 112, 113, 114, 115, 116, 117, 118, 119, 120, 121])), (.bool (decide (b5 = true))), (Sl.d s6)]]) x34 0) (decide (Sl.bool (Sl.lit [[(.str y24), (.bool (decide (b25 = true))), (Sl.d s26)], [(.str y28), (.bool (decide (b29 = true))), (Sl.d s30)], [(.str (bytes [])), (.bool (decide (b5 = true))), (Sl.d s6)], [(.str (bytes [97, 98, 99, 100, 101, 102, 103, 104, 105, 106, 107, 108, 109, 110, 111, 112, 113, 114, 115, 116, 117, 118, 119, 120, 121])), (.bool (decide (b5 = true))), (Sl.d s6)]]) x34 1 = true)) (Sl.sub (Sl.lit [[(.str y24), (.bool (decide (b25 = true))), (Sl.d s26)], [(.str y28), (.bool (decide (b29 = true))), (Sl.d s30)], [(.str (bytes [])), (.bool (decide (b5 = true))), (Sl.d s6)], [(.str (bytes [97, 98, 99, 100, 101, 102, 103, 104, 105, 106, 107, 108, 109, 110, 111, 112, 113, 114, 115, 116, 117, 118, 119, 120, 121])), (.bool (decide (b5 = true))), (Sl.d s6)]]) x34 2) 200 200 5) ∧
(∀ b44 : Bool,
(∀ s45 : Sl,
((Ranged s45 [some .u16]) →
(∀ b46 : Bool,
(∀ s47 : Sl,
((Ranged s47 [some .u16]) →
(∀ x48 : Int,
((Rng .i64 x48) →
((q_LookTwo (Sl.str (Sl.lit [[(.str y24), (.bool (decide (b25 = true))), (Sl.d s26)], [(.str y28), (.bool (decide (b29 = true))), (Sl.d s30)], [(.str (bytes [])), (.bool (decide (b5 = true))), (Sl.d s6)], [(.str (bytes [97, 98, 99, 100, 101, 102, 103, 104, 105, 106, 107, 108, 109, 110, 111, 112, 113, 114, 115, 116, 117, 118, 119, 120, 121])), (.bool (decide (b5 = true))), (Sl.d s6)]]) x34 0) (decide (Sl.bool (Sl.lit [[(.str y24), (.bool (decide (b25 = true))), (Sl.d s26)], [(.str y28), (.bool (decide (b29 = true))), (Sl.d s30)], [(.str (bytes [])), (.bool (decide (b5 = true))), (Sl.d s6)], [(.str (bytes [97, 98, 99, 100, 101, 102, 103, 104, 105, 106, 107, 108, 109, 110, 111, 112, 113, 114, 115, 116, 117, 118, 119, 120, 121])), (.bool (decide (b5 = true))), (Sl.d s6)]]) x34 1 = true)) (Sl.sub (Sl.lit [[(.str y24), (.bool (decide (b25 = true))), (Sl.d s26)], [(.str y28), (.bool (decide (b29 = true))), (Sl.d s30)], [(.str (bytes [])), (.bool (decide (b5 = true))), (Sl.d s6)], [(.str (bytes [97, 98, 99, 100, 101, 102, 103, 104, 105, 106, 107, 108, 109, 110, 111, 112, 113, 114, 115, 116, 117, 118, 119, 120, 121])), (.bool (decide (b5 = true))), (Sl.d s6)]]) x34 2) 200 200 5 (decide (b44 = true)) s45 (decide (b46 = true)) s47 x48) →
(p_Learn (Sl.str (Sl.lit [[(.str y24), (.bool (decide (b25 = true))), (Sl.d s26)], [(.str y28), (.bool (decide (b29 = true))), (Sl.d s30)], [(.str (bytes [])), (.bool (decide (b5 = true))), (Sl.d s6)], [(.str (bytes [97, 98, 99, 100, 101, 102, 103, 104, 105, 106, 107, 108, 109, 110, 111, 112, 113, 114, 115, 116, 117, 118, 119, 120, 121])), (.bool (decide (b5 = true))), (Sl.d s6)]]) x34 0) (decide (Sl.bool (Sl.lit [[(.str y24), (.bool (decide (b25 = true))), (Sl.d s26)], [(.str y28), (.bool (decide (b29 = true))), (Sl.d s30)], [(.str (bytes [])), (.bool (decide (b5 = true))), (Sl.d s6)], [(.str (bytes [97, 98, 99, 100, 101, 102, 103, 104, 105, 106, 107, 108, 109, 110, 111, 112, 113, 114, 115, 116, 117, 118, 119, 120, 121])), (.bool (decide (b5 = true))), (Sl.d s6)]]) x34 1 = true)) (Sl.sub (Sl.lit [[(.str y24), (.bool (decide (b25 = true))), (Sl.d s26)], [(.str y28), (.bool (decide (b29 = true))), (Sl.d s30)], [(.str (bytes [])), (.bool (decide (b5 = true))), (Sl.d s6)], [(.str (bytes [97, 98, 99, 100, 101, 102, 103, 104, 105, 106, 107, 108, 109, 110, 111, 112, 113, 114, 115, 116, 117, 118, 119, 120, 121])), (.bool (decide (b5 = true))), (Sl.d s6)]]) x34 2) 100 0 3 (decide (b7 = true)) s8 (decide (b9 = true)) s10) ∧
(∀ y49 : ByteArray,
(∀ b50 : Bool,
(∀ s51 : Sl,
((Ranged s51 [some .i64, some .i64, some .i64, none, none, none, none]) →
(∀ x52 : Int,
((Rng .i64 x52) →
((q_Learn (Sl.str (Sl.lit [[(.str y24), (.bool (decide (b25 = true))), (Sl.d s26)], [(.str y28), (.bool (decide (b29 = true))), (Sl.d s30)], [(.str (bytes [])), (.bool (decide (b5 = true))), (Sl.d s6)], [(.str (bytes [97, 98, 99, 100, 101, 102, 103, 104, 105, 106, 107, 108, 109, 110, 111, 112, 113, 114, 115, 116, 117, 118, 119, 120, 121])), (.bool (decide (b5 = true))), (Sl.d s6)]]) x34 0) (decide (Sl.bool (Sl.lit [[(.str y24), (.bool (decide (b25 = true))), (Sl.d s26)], [(.str y28), (.bool (decide (b29 = true))), (Sl.d s30)], [(.str (bytes [])), (.bool (decide (b5 = true))), (Sl.d s6)], [(.str (bytes [97, 98, 99, 100, 101, 102, 103, 104, 105, 106, 107, 108, 109, 110, 111, 112, 113, 114, 115, 116, 117, 118, 119, 120, 121])), (.bool (decide (b5 = true))), (Sl.d s6)]]) x34 1 = true)) (Sl.sub (Sl.lit [[(.str y24), (.bool (decide (b25 = true))), (Sl.d s26)], [(.str y28), (.bool (decide (b29 = true))), (Sl.d s30)], [(.str (bytes [])), (.bool (decide (b5 = true))), (Sl.d s6)], [(.str (bytes [97, 98, 99, 100, 101, 102, 103, 104, 105, 106, 107, 108, 109, 110, 111, 112, 113, 114, 115, 116, 117, 118, 119, 120, 121])), (.bool (decide (b5 = true))), (Sl.d s6)]]) x34 2) 100 0 3 (decide (b7 = true)) s8 (decide (b9 = true)) s10 y49 (decide (b50 = true)) s51 x52) →
(∃ J53 : Bool → Prop,
(((((x38 ≠ 2) → J53 (decide True)) ∧
(¬ (x38 ≠ 2) →
(((x43 ≠ 2) → J53 (decide True)) ∧
(¬ (x43 ≠ 2) →
(((x48 ≠ 2) → J53 (decide True)) ∧
(¬ (x48 ≠ 2) →
(((x52 ≠ 2) → J53 (decide True)) ∧
(¬ (x52 ≠ 2) →
((Small s37) →
((Small s51) →
(Rng .i64 ((Sl.len s37) + (Sl.len s51))) ∧
(p_kLimbs (decide (b39 = true)) s40 (decide (b41 = true)) s42) ∧
(∀ x54 : Int,
((Rng .i64 x54) →
((q_kLimbs (decide (b39 = true)) s40 (decide (b41 = true)) s42 x54) →
(Rng .i64 (((Sl.len s37) + (Sl.len s51)) + x54)) ∧
(p_kLimbs (decide (b44 = true)) s45 (decide (b46 = true)) s47) ∧
(∀ x55 : Int,
((Rng .i64 x55) →
((q_kLimbs (decide (b44 = true)) s45 (decide (b46 = true)) s47 x55) →
(Rng .i64 ((((Sl.len s37) + (Sl.len s51)) + x54) + x55)) ∧
(((((((Sl.len s37) + (Sl.len s51)) + x54) + x55) ≠ 0) → J53 (decide True)) ∧
(¬ (((((Sl.len s37) + (Sl.len s51)) + x54) + x55) ≠ 0) →
(p_tValid (Sl.str (Sl.lit [[(.str y24), (.bool (decide (b25 = true))), (Sl.d s26)], [(.str y28), (.bool (decide (b29 = true))), (Sl.d s30)], [(.str (bytes [])), (.bool (decide (b5 = true))), (Sl.d s6)], [(.str (bytes [97, 98, 99, 100, 101, 102, 103, 104, 105, 106, 107, 108, 109, 110, 111, 112, 113, 114, 115, 116, 117, 118, 119, 120, 121])), (.bool (decide (b5 = true))), (Sl.d s6)]]) x34 0) (decide (Sl.bool (Sl.lit [[(.str y24), (.bool (decide (b25 = true))), (Sl.d s26)], [(.str y28), (.bool (decide (b29 = true))), (Sl.d s30)], [(.str (bytes [])), (.bool (decide (b5 = true))), (Sl.d s6)], [(.str (bytes [97, 98, 99, 100, 101, 102, 103, 104, 105, 106, 107, 108, 109, 110, 111, 112, 113, 114, 115, 116, 117, 118, 119, 120, 121])), (.bool (decide (b5 = true))), (Sl.d s6)]]) x34 1 = true)) (Sl.sub (Sl.lit [[(.str y24), (.bool (decide (b25 = true))), (Sl.d s26)], [(.str y28), (.bool (decide (b29 = true))), (Sl.d s30)], [(.str (bytes [])), (.bool (decide (b5 = true))), (Sl.d s6)], [(.str (bytes [97, 98, 99, 100, 101, 102, 103, 104, 105, 106, 107, 108, 109, 110, 111, 112, 113, 114, 115, 116, 117, 118, 119, 120, 121])), (.bool (decide (b5 = true))), (Sl.d s6)]]) x34 2)) ∧
(∀ b56 : Bool,
((q_tValid (Sl.str (Sl.lit [[(.str y24), (.bool (decide (b25 = true))), (Sl.d s26)], [(.str y28), (.bool (decide (b29 = true))), (Sl.d s30)], [(.str (bytes [])), (.bool (decide (b5 = true))), (Sl.d s6)], [(.str (bytes [97, 98, 99, 100, 101, 102, 103, 104, 105, 106, 107, 108, 109, 110, 111, 112, 113, 114, 115, 116, 117, 118, 119, 120, 121])), (.bool (decide (b5 = true))), (Sl.d s6)]]) x34 0) (decide (Sl.bool (Sl.lit [[(.str y24), (.bool (decide (b25 = true))), (Sl.d s26)], [(.str y28), (.bool (decide (b29 = true))), (Sl.d s30)], [(.str (bytes [])), (.bool (decide (b5 = true))), (Sl.d s6)], [(.str (bytes [97, 98, 99, 100, 101, 102, 103, 104, 105, 106, 107, 108, 109, 110, 111, 112, 113, 114, 115, 116, 117, 118, 119, 120, 121])), (.bool (decide (b5 = true))), (Sl.d s6)]]) x34 1 = true)) (Sl.sub (Sl.lit [[(.str y24), (.bool (decide (b25 = true))), (Sl.d s26)], [(.str y28), (.bool (decide (b29 = true))), (Sl.d s30)], [(.str (bytes [])), (.bool (decide (b5 = true))), (Sl.d s6)], [(.str (bytes [97, 98, 99, 100, 101, 102, 103, 104, 105, 106, 107, 108, 109, 110, 111, 112, 113, 114, 115, 116, 117, 118, 119, 120, 121])), (.bool (decide (b5 = true))), (Sl.d s6)]]) x34 2) (decide (b56 = true))) → J53 (decide (b56 = true))))))))))))))))))))))) ∧
((∀ b54 : Bool,
(J53 (decide (b54 = true)) →
(((b54 = true) →
(q_TWrong s0 x1 (decide (b2 = true)) (decide False)) ∧ True) ∧
(¬ (b54 = true) →
(Rng .i64 (x34 + 1)) ∧
(J33 (x34 + 1) ∧ M33 (x34 + 1) < M33 x34)))))))))))))))))))))))))))))))))))))))))) ∧
(¬ (x34 < (Sl.len (Sl.lit [[(.str y24), (.bool (decide (b25 = true))), (Sl.d s26)], [(.str y28), (.bool (decide (b29 = true))), (Sl.d s30)], [(.str (bytes [])), (.bool (decide (b5 = true))), (Sl.d s6)], [(.str (bytes [97, 98, 99, 100, 101, 102, 103, 104, 105, 106, 107, 108, 109, 110, 111, 112, 113, 114, 115, 116, 117, 118, 119, 120, 121])), (.bool (decide (b5 = true))), (Sl.d s6)]]))) →
(p_Look y4 (decide (b5 = true)) s6 0 0) ∧
(∀ b35 : Bool,
(∀ s36 : Sl,
((Ranged s36 [some .u16]) →
(∀ b37 : Bool,
(∀ s38 : Sl,
((Ranged s38 [some .u16]) →
(∀ x39 : Int,
((Rng .i64 x39) →
((q_Look y4 (decide (b5 = true)) s6 0 0 (decide (b35 = true)) s36 (decide (b37 = true)) s38 x39) →
(p_LookTwo y4 (decide (b5 = true)) s6 0 0 0) ∧
(∀ b40 : Bool,
(∀ s41 : Sl,
((Ranged s41 [some .u16]) →
(∀ b42 : Bool,
(∀ s43 : Sl,
((Ranged s43 [some .u16]) →
(∀ x44 : Int,
((Rng .i64 x44) →
((q_LookTwo y4 (decide (b5 = true)) s6 0 0 0 (decide (b40 = true)) s41 (decide (b42 = true)) s43 x44) →
(p_Learn y4 (decide (b5 = true)) s6 100 1 3 (decide (b7 = true)) s8 (decide (b9 = true)) s10) ∧
(∀ y45 : ByteArray,
(∀ b46 : Bool,
(∀ s47 : Sl,
((Ranged s47 [some .i64, some .i64, some .i64, none, none, none, none]) →
(∀ x48 : Int,
((Rng .i64 x48) →
((q_Learn y4 (decide (b5 = true)) s6 100 1 3 (decide (b7 = true)) s8 (decide (b9 = true)) s10 y45 (decide (b46 = true)) s47 x48) →
((((x39 = 2) ↔ (b2 = true)) →
((((x44 = 2) ↔ (¬ (b2 = true))) →
(q_TWrong s0 x1 (decide (b2 = true)) (decide ((x48 = 2) ↔ (¬ (b2 = true))))) ∧ True) ∧
(¬ ((x44 = 2) ↔ (¬ (b2 = true))) →
(q_TWrong s0 x1 (decide (b2 = true)) (decide False)) ∧ True))) ∧
(¬ ((x39 = 2) ↔ (b2 = true)) →
(q_TWrong s0 x1 (decide (b2 = true)) (decide False)) ∧ True))))))))))))))))))))))))))))))))))))))))))))))))))))))))))))))))))))))))))))))))))))))))))))))))))))))))))))))
end Go.Sx.N
