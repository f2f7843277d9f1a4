/-
  The conditions of the functions. Conditions: none; printed by a program of our own.
-/
import Derived.Test.YtmhhcnaflklapaaGreatArrSpec
set_option maxRecDepth 20000
namespace Go.Sx.N
def V_Known_0 (s7 : Sl) (x4 : Int) (b13 : Bool) (s14 : Sl) (b15 : Bool) (s16 : Sl) (J12 : ByteArray → Bool → Sl → Prop) (y5 : ByteArray) (b6 : Bool) : Prop :=
((((Sl.len (Sl.lit [[(.int (Sl.int s7 0 0)), (.int (Sl.int s7 0 1)), (.int (Sl.int s7 0 2)), (.bool (decide (Sl.bool s7 0 3 = true))), (Sl.d (Sl.sub s7 0 4)), (.bool (decide (Sl.bool s7 0 5 = true))), (Sl.d (Sl.sub s7 0 6))], [(.int 0), (.int 0), (.int (x4 + 1)), (.bool (decide (b13 = true))), (Sl.d s14), (.bool (decide (b15 = true))), (Sl.d s16)]])) + (Sl.len (Sl.part s7 1 (Sl.len s7)))) * 88) ≤ 140737488355328) ∧ J12 y5 (decide (b6 = true)) (Sl.app (Sl.lit [[(.int (Sl.int s7 0 0)), (.int (Sl.int s7 0 1)), (.int (Sl.int s7 0 2)), (.bool (decide (Sl.bool s7 0 3 = true))), (Sl.d (Sl.sub s7 0 4)), (.bool (decide (Sl.bool s7 0 5 = true))), (Sl.d (Sl.sub s7 0 6))], [(.int 0), (.int 0), (.int (x4 + 1)), (.bool (decide (b13 = true))), (Sl.d s14), (.bool (decide (b15 = true))), (Sl.d s16)]]) (Sl.part s7 1 (Sl.len s7)))
def V_Known_1 (s7 : Sl) (x4 : Int) (b13 : Bool) (s14 : Sl) (b15 : Bool) (s16 : Sl) (J12 : ByteArray → Bool → Sl → Prop) (y5 : ByteArray) (b6 : Bool) : Prop :=
(((0 : Int) ≤ 1) ∧
((1 : Int) ≤ (Sl.len s7)) ∧
((Sl.len s7) ≤ (Sl.len s7)) ∧
(V_Known_0 s7 x4 b13 s14 b15 s16 J12 y5 b6))
def V_Known_2 (s7 : Sl) (x4 : Int) (b13 : Bool) (s14 : Sl) (b15 : Bool) (s16 : Sl) (J12 : ByteArray → Bool → Sl → Prop) (y5 : ByteArray) (b6 : Bool) : Prop :=
((V_Known_1 s7 x4 b13 s14 b15 s16 J12 y5 b6) ∧
(V_Known_1 s7 x4 b13 s14 b15 s16 J12 y5 b6))
def V_Known_3 (s7 : Sl) (x4 : Int) (J12 : ByteArray → Bool → Sl → Prop) (y5 : ByteArray) (b6 : Bool) : Prop :=
(p_part 9 1) ∧
(∀ b100 : Bool,
(∀ s101 : Sl,
((Ranged s101 [some .u16]) →
(∀ b102 : Bool,
(∀ s103 : Sl,
((Ranged s103 [some .u16]) →
((q_part 9 1 (decide (b100 = true)) s101 (decide (b102 = true)) s103) →
(V_Known_0 s7 x4 b100 s101 b102 s103 J12 y5 b6))))))))
def V_Known_4 (s7 : Sl) (x4 : Int) (b13 : Bool) (s14 : Sl) (b15 : Bool) (s16 : Sl) (J12 : ByteArray → Bool → Sl → Prop) (y5 : ByteArray) (b6 : Bool) : Prop :=
((Rng .i64 (Sl.int s7 0 0)) →
((Rng .i64 (Sl.int s7 0 1)) →
((Rng .i64 (Sl.int s7 0 2)) →
((Ranged (Sl.sub s7 0 4) [some .u16]) →
((Ranged (Sl.sub s7 0 6) [some .u16]) →
(V_Known_0 s7 x4 b13 s14 b15 s16 J12 y5 b6))))))
def V_Known_5 (x4 : Int) (x0 : Int) (x1 : Int) (x2 : Int) (y13 : ByteArray) (b14 : Bool) (s15 : Sl) (s3 : Sl) (x16 : Int) : Prop :=
(Rng .i64 (x4 + 1)) ∧
((((x4 + 1) < 65536) →
(p_Interest x0 (1080 + (Int.tmod x1 100)) ((1080 + (Int.tmod x1 100)) + (Int.tmod x2 20)) y13 (decide (b14 = true)) s15 x4) ∧
(∀ x200 : Int,
((Rng .i64 x200) →
(∀ x201 : Int,
((Rng .i64 x201) →
((q_Interest x0 (1080 + (Int.tmod x1 100)) ((1080 + (Int.tmod x1 100)) + (Int.tmod x2 20)) y13 (decide (b14 = true)) s15 x4 x200 x201) →
(((x201 ≠ 0) →
(q_Known x0 x1 x2 s3 x4 (decide False)) ∧ True) ∧
(¬ (x201 ≠ 0) →
(((x200 ≠ x16) →
(q_Known x0 x1 x2 s3 x4 (decide False)) ∧ True) ∧
(¬ (x200 ≠ x16) →
(p_aAwake ) ∧
(∀ b202 : Bool,
((q_aAwake  (decide (b202 = true))) →
(q_Known x0 x1 x2 s3 x4 (decide (b202 = true))) ∧ True)))))))))))) ∧
(¬ ((x4 + 1) < 65536) →
(p_aAwake ) ∧
(∀ b202 : Bool,
((q_aAwake  (decide (b202 = true))) →
(q_Known x0 x1 x2 s3 x4 (decide (b202 = true))) ∧ True))))
def V_Known_6 (x21 : Int) (x0 : Int) (x1 : Int) (x2 : Int) (s3 : Sl) (x4 : Int) (y13 : ByteArray) (b14 : Bool) (s15 : Sl) (x16 : Int) : Prop :=
(((x21 ≠ 6) →
(((x21 ≠ 0) →
(q_Known x0 x1 x2 s3 x4 (decide False)) ∧ True) ∧
(¬ (x21 ≠ 0) →
(V_Known_5 x4 x0 x1 x2 y13 b14 s15 s3 x16)))) ∧
(¬ (x21 ≠ 6) →
(V_Known_5 x4 x0 x1 x2 y13 b14 s15 s3 x16)))
def V_Known : Prop :=
(∀ x0 : Int,
((Rng .u32 x0) →
(∀ x1 : Int,
((Rng .u8 x1) →
(∀ x2 : Int,
((Rng .u8 x2) →
(∀ s3 : Sl,
((Ranged s3 [some .u8]) →
(∀ x4 : Int,
((Rng .u16 x4) →
((p_Known x0 x1 x2 s3 x4) →
((100 : Int) ≠ 0) ∧
(Rng .u8 (Int.tmod x1 100)) ∧
(Rng .i64 (1080 + (Int.tmod x1 100))) ∧
((20 : Int) ≠ 0) ∧
(Rng .u8 (Int.tmod x2 20)) ∧
(Rng .i64 ((1080 + (Int.tmod x1 100)) + (Int.tmod x2 20))) ∧
(p_rates s3) ∧
(∀ y5 : ByteArray,
(∀ b6 : Bool,
(∀ s7 : Sl,
((Ranged s7 [some .i64, some .i64, some .i64, none, none, none, none]) →
((q_rates s3 y5 (decide (b6 = true)) s7) →
((((Sl.len (Sl.lit [])) + (Sl.len s7)) * 88) ≤ 140737488355328) ∧
(p_part 9 1) ∧
(∀ b8 : Bool,
(∀ s9 : Sl,
((Ranged s9 [some .u16]) →
(∀ b10 : Bool,
(∀ s11 : Sl,
((Ranged s11 [some .u16]) →
((q_part 9 1 (decide (b8 = true)) s9 (decide (b10 = true)) s11) →
((((Sl.len (Sl.app (Sl.lit []) s7)) + (Sl.len (Sl.lit [[(.int 2150), (.int 0), (.int 0), (.bool (decide (b8 = true))), (Sl.d s9), (.bool (decide (b10 = true))), (Sl.d s11)]]))) * 88) ≤ 140737488355328) ∧
(∃ J12 : ByteArray → Bool → Sl → Prop,
((((0 : Int) ≤ 0) ∧
((0 : Int) < (Sl.len s7)) ∧
(Rng .i64 (x4 + 1)) ∧
((((Rng .i64 (Sl.int s7 0 0)) →
((Rng .i64 (Sl.int s7 0 1)) →
((Rng .i64 (Sl.int s7 0 2)) →
((Ranged (Sl.sub s7 0 4) [some .u16]) →
((Ranged (Sl.sub s7 0 6) [some .u16]) →
(((p_part 9 1) ∧
(∀ b13 : Bool,
(∀ s14 : Sl,
((Ranged s14 [some .u16]) →
(∀ b15 : Bool,
(∀ s16 : Sl,
((Ranged s16 [some .u16]) →
((q_part 9 1 (decide (b13 = true)) s14 (decide (b15 = true)) s16) →
(V_Known_2 s7 x4 b13 s14 b15 s16 J12 y5 b6))))))))) ∧
(((0 : Int) ≤ 1) ∧
((1 : Int) ≤ (Sl.len s7)) ∧
((Sl.len s7) ≤ (Sl.len s7)) ∧
(V_Known_3 s7 x4 J12 y5 b6))))))))) ∧
((((p_part 9 1) ∧
(∀ b13 : Bool,
(∀ s14 : Sl,
((Ranged s14 [some .u16]) →
(∀ b15 : Bool,
(∀ s16 : Sl,
((Ranged s16 [some .u16]) →
((q_part 9 1 (decide (b13 = true)) s14 (decide (b15 = true)) s16) →
((((Rng .i64 (Sl.int s7 0 0)) →
((Rng .i64 (Sl.int s7 0 1)) →
((Rng .i64 (Sl.int s7 0 2)) →
((Ranged (Sl.sub s7 0 4) [some .u16]) →
((Ranged (Sl.sub s7 0 6) [some .u16]) →
(V_Known_2 s7 x4 b13 s14 b15 s16 J12 y5 b6))))))) ∧
(((0 : Int) ≤ 1) ∧
((1 : Int) ≤ (Sl.len s7)) ∧
((Sl.len s7) ≤ (Sl.len s7)) ∧
(V_Known_4 s7 x4 b13 s14 b15 s16 J12 y5 b6))))))))))) ∧
(((0 : Int) ≤ 1) ∧
((1 : Int) ≤ (Sl.len s7)) ∧
((Sl.len s7) ≤ (Sl.len s7)) ∧
((((Rng .i64 (Sl.int s7 0 0)) →
((Rng .i64 (Sl.int s7 0 1)) →
((Rng .i64 (Sl.int s7 0 2)) →
((Ranged (Sl.sub s7 0 4) [some .u16]) →
((Ranged (Sl.sub s7 0 6) [some .u16]) →
(V_Known_3 s7 x4 J12 y5 b6))))))) ∧
((p_part 9 1) ∧
(∀ b13 : Bool,
(∀ s14 : Sl,
((Ranged s14 [some .u16]) →
(∀ b15 : Bool,
(∀ s16 : Sl,
((Ranged s16 [some .u16]) →
((q_part 9 1 (decide (b13 = true)) s14 (decide (b15 = true)) s16) →
(V_Known_4 s7 x4 b13 s14 b15 s16 J12 y5 b6))))))))))))))) ∧
((∀ y13 : ByteArray,
(∀ b14 : Bool,
(∀ s15 : Sl,
((Ranged s15 [some .i64, some .i64, some .i64, none, none, none, none]) →
(J12 y13 (decide (b14 = true)) s15 →
(p_Interest x0 (1080 + (Int.tmod x1 100)) ((1080 + (Int.tmod x1 100)) + (Int.tmod x2 20)) y5 (decide (b6 = true)) s7 x4) ∧
(∀ x16 : Int,
((Rng .i64 x16) →
(∀ x17 : Int,
((Rng .i64 x17) →
((q_Interest x0 (1080 + (Int.tmod x1 100)) ((1080 + (Int.tmod x1 100)) + (Int.tmod x2 20)) y5 (decide (b6 = true)) s7 x4 x16 x17) →
(p_Interest x0 (1080 + (Int.tmod x1 100)) ((1080 + (Int.tmod x1 100)) + (Int.tmod x2 20)) y5 (decide (b6 = true)) (Sl.app (Sl.app (Sl.lit []) s7) (Sl.lit [[(.int 2150), (.int 0), (.int 0), (.bool (decide (b8 = true))), (Sl.d s9), (.bool (decide (b10 = true))), (Sl.d s11)]])) x4) ∧
(∀ x18 : Int,
((Rng .i64 x18) →
(∀ x19 : Int,
((Rng .i64 x19) →
((q_Interest x0 (1080 + (Int.tmod x1 100)) ((1080 + (Int.tmod x1 100)) + (Int.tmod x2 20)) y5 (decide (b6 = true)) (Sl.app (Sl.app (Sl.lit []) s7) (Sl.lit [[(.int 2150), (.int 0), (.int 0), (.bool (decide (b8 = true))), (Sl.d s9), (.bool (decide (b10 = true))), (Sl.d s11)]])) x4 x18 x19) →
(p_Interest x0 (1080 + (Int.tmod x1 100)) ((1080 + (Int.tmod x1 100)) + (Int.tmod x2 20)) (bytes [114]) (decide False) Sl.nil x4) ∧
(∀ x20 : Int,
((Rng .i64 x20) →
(∀ x21 : Int,
((Rng .i64 x21) →
((q_Interest x0 (1080 + (Int.tmod x1 100)) ((1080 + (Int.tmod x1 100)) + (Int.tmod x2 20)) (bytes [114]) (decide False) Sl.nil x4 x20 x21) →
(((x17 ≠ 0) →
(q_Known x0 x1 x2 s3 x4 (decide False)) ∧ True) ∧
(¬ (x17 ≠ 0) →
(((x19 ≠ 0) →
(q_Known x0 x1 x2 s3 x4 (decide False)) ∧ True) ∧
(¬ (x19 ≠ 0) →
(((x16 ≠ x18) →
(q_Known x0 x1 x2 s3 x4 (decide False)) ∧ True) ∧
(¬ (x16 ≠ x18) →
(((x20 ≠ 0) →
(q_Known x0 x1 x2 s3 x4 (decide False)) ∧ True) ∧
(¬ (x20 ≠ 0) →
(((x0 > 0) →
(((¬ ((x21 = 6) ↔ (((1080 + (Int.tmod x1 100)) + (Int.tmod x2 20)) > (1080 + (Int.tmod x1 100))))) →
(q_Known x0 x1 x2 s3 x4 (decide False)) ∧ True) ∧
(¬ (¬ ((x21 = 6) ↔ (((1080 + (Int.tmod x1 100)) + (Int.tmod x2 20)) > (1080 + (Int.tmod x1 100))))) →
(V_Known_6 x21 x0 x1 x2 s3 x4 y13 b14 s15 x16)))) ∧
(¬ (x0 > 0) →
(((¬ ((x21 = 6) ↔ False)) →
(q_Known x0 x1 x2 s3 x4 (decide False)) ∧ True) ∧
(¬ (¬ ((x21 = 6) ↔ False)) →
(V_Known_6 x21 x0 x1 x2 s3 x4 y13 b14 s15 x16)))))))))))))))))))))))))))))))))))))))))))))))))))))))))))
end Go.Sx.N
