/-
  The conditions of the functions. Conditions: none; printed by a program of our own.
-/
import Derived.Test.YtjbknheeiaaioaaTabSpec
set_option maxRecDepth 20000
namespace Go.Sx.N
def V_TKnown_0 (s0 : Sl) (x1 : Int) (x2 : Int) (x3 : Int) (x4 : Int) (x5 : Int) (x6 : Int) (b14 : Bool) (s15 : Sl) (b16 : Bool) (s17 : Sl) (b101 : Bool) (s102 : Sl) (b103 : Bool) (s104 : Sl) (x105 : Int) : Prop :=
(((x105 = 0) →
(p_kSameFrac (decide (b101 = true)) s102 (decide (b103 = true)) s104 (decide (b14 = true)) s15 (decide (b16 = true)) s17) ∧
(∀ b200 : Bool,
((q_kSameFrac (decide (b101 = true)) s102 (decide (b103 = true)) s104 (decide (b14 = true)) s15 (decide (b16 = true)) s17 (decide (b200 = true))) →
(q_TKnown s0 x1 x2 x3 x4 x5 x6 (decide (b200 = true))) ∧ True))) ∧
(¬ (x105 = 0) →
(q_TKnown s0 x1 x2 x3 x4 x5 x6 (decide False)) ∧ True))
def V_TKnown_1 (s0 : Sl) (x1 : Int) (x2 : Int) (x3 : Int) (x4 : Int) (x5 : Int) (x6 : Int) (y8 : ByteArray) (b9 : Bool) (s10 : Sl) (x11 : Int) (x13 : Int) (b14 : Bool) (s15 : Sl) (b16 : Bool) (s17 : Sl) (y18 : ByteArray) (b19 : Bool) (s20 : Sl) (b23 : Bool) (s24 : Sl) (b25 : Bool) (s26 : Sl) (x27 : Int) (b28 : Bool) (s29 : Sl) (b30 : Bool) (s31 : Sl) (x32 : Int) : Prop :=
(((x27 ≠ x32) →
(q_TKnown s0 x1 x2 x3 x4 x5 x6 (decide False)) ∧ True) ∧
(¬ (x27 ≠ x32) →
(p_kSameFrac (decide (b23 = true)) s24 (decide (b25 = true)) s26 (decide (b28 = true)) s29 (decide (b30 = true)) s31) ∧
(∀ b100 : Bool,
((q_kSameFrac (decide (b23 = true)) s24 (decide (b25 = true)) s26 (decide (b28 = true)) s29 (decide (b30 = true)) s31 (decide (b100 = true))) →
(((¬ (b100 = true)) →
(q_TKnown s0 x1 x2 x3 x4 x5 x6 (decide False)) ∧ True) ∧
(¬ (¬ (b100 = true)) →
(p_Look y18 (decide (b19 = true)) s20 x11 x6) ∧
(∀ b101 : Bool,
(∀ s102 : Sl,
((Ranged s102 [some .u16]) →
(∀ b103 : Bool,
(∀ s104 : Sl,
((Ranged s104 [some .u16]) →
(∀ x105 : Int,
((Rng .i64 x105) →
((q_Look y18 (decide (b19 = true)) s20 x11 x6 (decide (b101 = true)) s102 (decide (b103 = true)) s104 x105) →
(((x6 < x13) →
(q_TKnown s0 x1 x2 x3 x4 x5 x6 (decide True)) ∧ True) ∧
(¬ (x6 < x13) →
(p_holds y8 (decide (b9 = true)) s10 x11 0 x6) ∧
(∀ x106 : Int,
((Rng .i64 x106) →
((q_holds y8 (decide (b9 = true)) s10 x11 0 x6 x106) →
(((x106 ≥ 0) →
((0 : Int) ≤ x106) ∧
(x106 < (Sl.len s10)) ∧
((Rng .i64 (Sl.int s10 x106 2)) →
((((Sl.int s10 x106 2) > x13) →
(((x105 = 0) →
((0 : Int) ≤ x106) ∧
(x106 < (Sl.len s10)) ∧
((Ranged (Sl.sub s10 x106 4) [some .u16]) →
((Ranged (Sl.sub s10 x106 6) [some .u16]) →
(p_kSameFrac (decide (b101 = true)) s102 (decide (b103 = true)) s104 (decide (Sl.bool s10 x106 3 = true)) (Sl.sub s10 x106 4) (decide (Sl.bool s10 x106 5 = true)) (Sl.sub s10 x106 6)) ∧
(∀ b107 : Bool,
((q_kSameFrac (decide (b101 = true)) s102 (decide (b103 = true)) s104 (decide (Sl.bool s10 x106 3 = true)) (Sl.sub s10 x106 4) (decide (Sl.bool s10 x106 5 = true)) (Sl.sub s10 x106 6) (decide (b107 = true))) →
(q_TKnown s0 x1 x2 x3 x4 x5 x6 (decide (b107 = true))) ∧ True))))) ∧
(¬ (x105 = 0) →
(q_TKnown s0 x1 x2 x3 x4 x5 x6 (decide False)) ∧ True))) ∧
(¬ ((Sl.int s10 x106 2) > x13) →
(V_TKnown_0 s0 x1 x2 x3 x4 x5 x6 b14 s15 b16 s17 b101 s102 b103 s104 x105))))) ∧
(¬ (x106 ≥ 0) →
(V_TKnown_0 s0 x1 x2 x3 x4 x5 x6 b14 s15 b16 s17 b101 s102 b103 s104 x105)))))))))))))))))))))))
def V_TKnown_2 (s0 : Sl) (x1 : Int) (x2 : Int) (x3 : Int) (x4 : Int) (x5 : Int) (x6 : Int) (y8 : ByteArray) (b9 : Bool) (s10 : Sl) (x11 : Int) (x13 : Int) (b14 : Bool) (s15 : Sl) (b16 : Bool) (s17 : Sl) (y18 : ByteArray) (b19 : Bool) (s20 : Sl) : Prop :=
(p_Look y18 (decide (b19 = true)) s20 x11 x6) ∧
(∀ b100 : Bool,
(∀ s101 : Sl,
((Ranged s101 [some .u16]) →
(∀ b102 : Bool,
(∀ s103 : Sl,
((Ranged s103 [some .u16]) →
(∀ x104 : Int,
((Rng .i64 x104) →
((q_Look y18 (decide (b19 = true)) s20 x11 x6 (decide (b100 = true)) s101 (decide (b102 = true)) s103 x104) →
(((x6 < x13) →
(q_TKnown s0 x1 x2 x3 x4 x5 x6 (decide True)) ∧ True) ∧
(¬ (x6 < x13) →
(p_holds y8 (decide (b9 = true)) s10 x11 0 x6) ∧
(∀ x105 : Int,
((Rng .i64 x105) →
((q_holds y8 (decide (b9 = true)) s10 x11 0 x6 x105) →
(((x105 ≥ 0) →
((0 : Int) ≤ x105) ∧
(x105 < (Sl.len s10)) ∧
((Rng .i64 (Sl.int s10 x105 2)) →
((((Sl.int s10 x105 2) > x13) →
(((x104 = 0) →
((0 : Int) ≤ x105) ∧
(x105 < (Sl.len s10)) ∧
((Ranged (Sl.sub s10 x105 4) [some .u16]) →
((Ranged (Sl.sub s10 x105 6) [some .u16]) →
(p_kSameFrac (decide (b100 = true)) s101 (decide (b102 = true)) s103 (decide (Sl.bool s10 x105 3 = true)) (Sl.sub s10 x105 4) (decide (Sl.bool s10 x105 5 = true)) (Sl.sub s10 x105 6)) ∧
(∀ b106 : Bool,
((q_kSameFrac (decide (b100 = true)) s101 (decide (b102 = true)) s103 (decide (Sl.bool s10 x105 3 = true)) (Sl.sub s10 x105 4) (decide (Sl.bool s10 x105 5 = true)) (Sl.sub s10 x105 6) (decide (b106 = true))) →
(q_TKnown s0 x1 x2 x3 x4 x5 x6 (decide (b106 = true))) ∧ True))))) ∧
(¬ (x104 = 0) →
(q_TKnown s0 x1 x2 x3 x4 x5 x6 (decide False)) ∧ True))) ∧
(¬ ((Sl.int s10 x105 2) > x13) →
(((x104 = 0) →
(p_kSameFrac (decide (b100 = true)) s101 (decide (b102 = true)) s103 (decide (b14 = true)) s15 (decide (b16 = true)) s17) ∧
(∀ b106 : Bool,
((q_kSameFrac (decide (b100 = true)) s101 (decide (b102 = true)) s103 (decide (b14 = true)) s15 (decide (b16 = true)) s17 (decide (b106 = true))) →
(q_TKnown s0 x1 x2 x3 x4 x5 x6 (decide (b106 = true))) ∧ True))) ∧
(¬ (x104 = 0) →
(q_TKnown s0 x1 x2 x3 x4 x5 x6 (decide False)) ∧ True)))))) ∧
(¬ (x105 ≥ 0) →
(((x104 = 0) →
(p_kSameFrac (decide (b100 = true)) s101 (decide (b102 = true)) s103 (decide (b14 = true)) s15 (decide (b16 = true)) s17) ∧
(∀ b106 : Bool,
((q_kSameFrac (decide (b100 = true)) s101 (decide (b102 = true)) s103 (decide (b14 = true)) s15 (decide (b16 = true)) s17 (decide (b106 = true))) →
(q_TKnown s0 x1 x2 x3 x4 x5 x6 (decide (b106 = true))) ∧ True))) ∧
(¬ (x104 = 0) →
(q_TKnown s0 x1 x2 x3 x4 x5 x6 (decide False)) ∧ True))))))))))))))))))
def V_TKnown : Prop :=
(∀ s0 : Sl,
((Ranged s0 [some .u8, some .u8, some .u8, some .u16]) →
(∀ x1 : Int,
((Rng .u8 x1) →
(∀ x2 : Int,
((Rng .u8 x2) →
(∀ x3 : Int,
((Rng .u8 x3) →
(∀ x4 : Int,
((Rng .u16 x4) →
(∀ x5 : Int,
((Rng .i64 x5) →
(∀ x6 : Int,
((Rng .i64 x6) →
((p_TKnown s0 x1 x2 x3 x4 x5 x6) →
(p_awake ) ∧
(∀ b7 : Bool,
((q_awake  (decide (b7 = true))) →
(((¬ (b7 = true)) →
(q_TKnown s0 x1 x2 x3 x4 x5 x6 (decide False)) ∧ True) ∧
(¬ (¬ (b7 = true)) →
(p_Built s0 (decide False)) ∧
(∀ y8 : ByteArray,
(∀ b9 : Bool,
(∀ s10 : Sl,
((Ranged s10 [some .i64, some .i64, some .i64, none, none, none, none]) →
((q_Built s0 (decide False) y8 (decide (b9 = true)) s10) →
(p_tOf x1 x2 x3 x4 (decide False)) ∧
(∀ x11 : Int,
((Rng .i64 x11) →
(∀ x12 : Int,
((Rng .i64 x12) →
(∀ x13 : Int,
((Rng .i64 x13) →
(∀ b14 : Bool,
(∀ s15 : Sl,
((Ranged s15 [some .u16]) →
(∀ b16 : Bool,
(∀ s17 : Sl,
((Ranged s17 [some .u16]) →
((q_tOf x1 x2 x3 x4 (decide False) x11 x12 x13 (decide (b14 = true)) s15 (decide (b16 = true)) s17) →
(p_Learn y8 (decide (b9 = true)) s10 x11 x12 x13 (decide (b14 = true)) s15 (decide (b16 = true)) s17) ∧
(∀ y18 : ByteArray,
(∀ b19 : Bool,
(∀ s20 : Sl,
((Ranged s20 [some .i64, some .i64, some .i64, none, none, none, none]) →
(∀ x21 : Int,
((Rng .i64 x21) →
((q_Learn y8 (decide (b9 = true)) s10 x11 x12 x13 (decide (b14 = true)) s15 (decide (b16 = true)) s17 y18 (decide (b19 = true)) s20 x21) →
(((x21 ≠ 0) →
(q_TKnown s0 x1 x2 x3 x4 x5 x6 (decide False)) ∧ True) ∧
(¬ (x21 ≠ 0) →
(p_tValid y18 (decide (b19 = true)) s20) ∧
(∀ b22 : Bool,
((q_tValid y18 (decide (b19 = true)) s20 (decide (b22 = true))) →
(((¬ (b22 = true)) →
(q_TKnown s0 x1 x2 x3 x4 x5 x6 (decide False)) ∧ True) ∧
(¬ (¬ (b22 = true)) →
((Small s20) →
((Small s10) →
(Rng .i64 ((Sl.len s10) + 1)) ∧
((((Sl.len s20) ≠ ((Sl.len s10) + 1)) →
(q_TKnown s0 x1 x2 x3 x4 x5 x6 (decide False)) ∧ True) ∧
(¬ ((Sl.len s20) ≠ ((Sl.len s10) + 1)) →
(p_Look y8 (decide (b9 = true)) s10 x5 x6) ∧
(∀ b23 : Bool,
(∀ s24 : Sl,
((Ranged s24 [some .u16]) →
(∀ b25 : Bool,
(∀ s26 : Sl,
((Ranged s26 [some .u16]) →
(∀ x27 : Int,
((Rng .i64 x27) →
((q_Look y8 (decide (b9 = true)) s10 x5 x6 (decide (b23 = true)) s24 (decide (b25 = true)) s26 x27) →
(p_Look y18 (decide (b19 = true)) s20 x5 x6) ∧
(∀ b28 : Bool,
(∀ s29 : Sl,
((Ranged s29 [some .u16]) →
(∀ b30 : Bool,
(∀ s31 : Sl,
((Ranged s31 [some .u16]) →
(∀ x32 : Int,
((Rng .i64 x32) →
((q_Look y18 (decide (b19 = true)) s20 x5 x6 (decide (b28 = true)) s29 (decide (b30 = true)) s31 x32) →
(((x6 < x13) →
(V_TKnown_1 s0 x1 x2 x3 x4 x5 x6 y8 b9 s10 x11 x13 b14 s15 b16 s17 y18 b19 s20 b23 s24 b25 s26 x27 b28 s29 b30 s31 x32)) ∧
(¬ (x6 < x13) →
(((x5 < x11) →
(V_TKnown_1 s0 x1 x2 x3 x4 x5 x6 y8 b9 s10 x11 x13 b14 s15 b16 s17 y18 b19 s20 b23 s24 b25 s26 x27 b28 s29 b30 s31 x32)) ∧
(¬ (x5 < x11) →
(V_TKnown_2 s0 x1 x2 x3 x4 x5 x6 y8 b9 s10 x11 x13 b14 s15 b16 s17 y18 b19 s20)))))))))))))))))))))))))))))))))))))))))))))))))))))))))))))))))))))))))))))
end Go.Sx.N
