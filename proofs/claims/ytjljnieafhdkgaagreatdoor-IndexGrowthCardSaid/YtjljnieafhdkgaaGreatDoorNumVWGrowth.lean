/-
  The conditions of the functions. Conditions: none; printed by a program of our own.
-/
import Derived.Test.YtjljnieafhdkgaaGreatDoorIdxSpec
set_option maxRecDepth 20000
namespace Go.Sx.N
def V_WGrowth_0 (J19 : Int → Bool → Sl → Bool → Sl → Prop) (M19 : Int → Bool → Sl → Bool → Sl → Nat) (x20 : Int) (b21 : Bool) (s22 : Sl) (b23 : Bool) (s24 : Sl) : Prop :=
(Rng .i64 (x20 + 1)) ∧
(J19 (x20 + 1) (decide (b21 = true)) s22 (decide (b23 = true)) s24 ∧ M19 (x20 + 1) (decide (b21 = true)) s22 (decide (b23 = true)) s24 < M19 x20 (decide (b21 = true)) s22 (decide (b23 = true)) s24)
def V_WGrowth_1 (s0 : Sl) (x1 : Int) (x2 : Int) (x3 : Int) (J19 : Int → Bool → Sl → Bool → Sl → Prop) (M19 : Int → Bool → Sl → Bool → Sl → Nat) (x20 : Int) (b21 : Bool) (s22 : Sl) (b23 : Bool) (s24 : Sl) (b27 : Bool) (s28 : Sl) (b29 : Bool) (s30 : Sl) (b32 : Bool) (s33 : Sl) (b34 : Bool) (s35 : Sl) : Prop :=
(p_fAdd (decide (b32 = true)) s33 (decide (b34 = true)) s35 (decide (b27 = true)) s28 (decide (b29 = true)) s30) ∧
(∀ b100 : Bool,
(∀ s101 : Sl,
((Ranged s101 [some .u16]) →
(∀ b102 : Bool,
(∀ s103 : Sl,
((Ranged s103 [some .u16]) →
(∀ x104 : Int,
((Rng .i64 x104) →
((q_fAdd (decide (b32 = true)) s33 (decide (b34 = true)) s35 (decide (b27 = true)) s28 (decide (b29 = true)) s30 (decide (b100 = true)) s101 (decide (b102 = true)) s103 x104) →
(p_fMul (decide (b21 = true)) s22 (decide (b23 = true)) s24 (decide (b100 = true)) s101 (decide (b102 = true)) s103) ∧
(∀ b105 : Bool,
(∀ s106 : Sl,
((Ranged s106 [some .u16]) →
(∀ b107 : Bool,
(∀ s108 : Sl,
((Ranged s108 [some .u16]) →
(∀ x109 : Int,
((Rng .i64 x109) →
((q_fMul (decide (b21 = true)) s22 (decide (b23 = true)) s24 (decide (b100 = true)) s101 (decide (b102 = true)) s103 (decide (b105 = true)) s106 (decide (b107 = true)) s108 x109) →
(Rng .i64 (x104 + x109)) ∧
((((x104 + x109) ≠ 0) →
(q_WGrowth s0 x1 x2 x3 (decide False)) ∧ True) ∧
(¬ ((x104 + x109) ≠ 0) →
(Rng .i64 (x20 + 1)) ∧
(J19 (x20 + 1) (decide (b105 = true)) s106 (decide (b107 = true)) s108 ∧ M19 (x20 + 1) (decide (b105 = true)) s106 (decide (b107 = true)) s108 < M19 x20 (decide (b21 = true)) s22 (decide (b23 = true)) s24)))))))))))))))))))))
def V_WGrowth : Prop :=
(∀ s0 : Sl,
((Ranged s0 [some .u16]) →
(∀ x1 : Int,
((Rng .i64 x1) →
(∀ x2 : Int,
((Rng .i64 x2) →
(∀ x3 : Int,
((Rng .i64 x3) →
((p_WGrowth s0 x1 x2 x3) →
(p_xAwake ) ∧
(∀ b4 : Bool,
((q_xAwake  (decide (b4 = true))) →
(((¬ (b4 = true)) →
(q_WGrowth s0 x1 x2 x3 (decide False)) ∧ True) ∧
(¬ (¬ (b4 = true)) →
(p_iBuilt s0) ∧
(∀ y5 : ByteArray,
(∀ b6 : Bool,
(∀ s7 : Sl,
((Ranged s7 [some .i64, some .i64, some .i64, none, none, none, none]) →
((q_iBuilt s0 y5 (decide (b6 = true)) s7) →
(p_asked x1 x2) ∧
(∀ x8 : Int,
((Rng .i64 x8) →
(∀ x9 : Int,
((Rng .i64 x9) →
((q_asked x1 x2 x8 x9) →
(p_xGrow y5 (decide (b6 = true)) s7 x8 x9 x3) ∧
(∀ b10 : Bool,
(∀ s11 : Sl,
((Ranged s11 [some .u16]) →
(∀ b12 : Bool,
(∀ s13 : Sl,
((Ranged s13 [some .u16]) →
(∀ x14 : Int,
((Rng .i64 x14) →
((q_xGrow y5 (decide (b6 = true)) s7 x8 x9 x3 (decide (b10 = true)) s11 (decide (b12 = true)) s13 x14) →
(p_iOne ) ∧
(∀ b15 : Bool,
(∀ s16 : Sl,
((Ranged s16 [some .u16]) →
(∀ b17 : Bool,
(∀ s18 : Sl,
((Ranged s18 [some .u16]) →
((q_iOne  (decide (b15 = true)) s16 (decide (b17 = true)) s18) →
(∃ (J19 : Int → Bool → Sl → Bool → Sl → Prop) (M19 : Int → Bool → Sl → Bool → Sl → Nat), J19 1900 (decide (b15 = true)) s16 (decide (b17 = true)) s18 ∧
(∀ x20 : Int,
((Rng .i64 x20) →
(∀ b21 : Bool,
(∀ s22 : Sl,
((Ranged s22 [some .u16]) →
(∀ b23 : Bool,
(∀ s24 : Sl,
((Ranged s24 [some .u16]) →
(J19 x20 (decide (b21 = true)) s22 (decide (b23 = true)) s24 →
(((x20 ≤ 2079) →
(p_cDay x20 1 1) ∧
(∀ x25 : Int,
((Rng .i64 x25) →
(∀ x26 : Int,
((Rng .i64 x26) →
((q_cDay x20 1 1 x25 x26) →
(((x26 ≠ 0) →
(q_WGrowth s0 x1 x2 x3 (decide False)) ∧ True) ∧
(¬ (x26 ≠ 0) →
(((x25 < x8) →
(V_WGrowth_0 J19 M19 x20 b21 s22 b23 s24)) ∧
(¬ (x25 < x8) →
(((x25 ≥ x9) →
(V_WGrowth_0 J19 M19 x20 b21 s22 b23 s24)) ∧
(¬ (x25 ≥ x9) →
(p_Look y5 (decide (b6 = true)) s7 x20 x3) ∧
(∀ b27 : Bool,
(∀ s28 : Sl,
((Ranged s28 [some .u16]) →
(∀ b29 : Bool,
(∀ s30 : Sl,
((Ranged s30 [some .u16]) →
(∀ x31 : Int,
((Rng .i64 x31) →
((q_Look y5 (decide (b6 = true)) s7 x20 x3 (decide (b27 = true)) s28 (decide (b29 = true)) s30 x31) →
(((x31 ≠ 0) →
(((x14 = x31) →
(p_kLimbs (decide (b10 = true)) s11 (decide (b12 = true)) s13) ∧
(∀ x32 : Int,
((Rng .i64 x32) →
((q_kLimbs (decide (b10 = true)) s11 (decide (b12 = true)) s13 x32) →
(q_WGrowth s0 x1 x2 x3 (decide (x32 = 0))) ∧ True)))) ∧
(¬ (x14 = x31) →
(q_WGrowth s0 x1 x2 x3 (decide False)) ∧ True))) ∧
(¬ (x31 ≠ 0) →
(((p_iOne ) ∧
(∀ b32 : Bool,
(∀ s33 : Sl,
((Ranged s33 [some .u16]) →
(∀ b34 : Bool,
(∀ s35 : Sl,
((Ranged s35 [some .u16]) →
((q_iOne  (decide (b32 = true)) s33 (decide (b34 = true)) s35) →
(((V_WGrowth_1 s0 x1 x2 x3 J19 M19 x20 b21 s22 b23 s24 b27 s28 b29 s30 b32 s33 b34 s35)) ∧
((V_WGrowth_1 s0 x1 x2 x3 J19 M19 x20 b21 s22 b23 s24 b27 s28 b29 s30 b32 s33 b34 s35))))))))))) ∧
((p_iOne ) ∧
(∀ b32 : Bool,
(∀ s33 : Sl,
((Ranged s33 [some .u16]) →
(∀ b34 : Bool,
(∀ s35 : Sl,
((Ranged s35 [some .u16]) →
((q_iOne  (decide (b32 = true)) s33 (decide (b34 = true)) s35) →
(V_WGrowth_1 s0 x1 x2 x3 J19 M19 x20 b21 s22 b23 s24 b27 s28 b29 s30 b32 s33 b34 s35))))))))))))))))))))))))))))))))) ∧
(¬ (x20 ≤ 2079) →
(((x14 = 0) →
(p_kSameFrac (decide (b10 = true)) s11 (decide (b12 = true)) s13 (decide (b21 = true)) s22 (decide (b23 = true)) s24) ∧
(∀ b25 : Bool,
((q_kSameFrac (decide (b10 = true)) s11 (decide (b12 = true)) s13 (decide (b21 = true)) s22 (decide (b23 = true)) s24 (decide (b25 = true))) →
(q_WGrowth s0 x1 x2 x3 (decide (b25 = true))) ∧ True))) ∧
(¬ (x14 = 0) →
(q_WGrowth s0 x1 x2 x3 (decide False)) ∧ True)))))))))))))))))))))))))))))))))))))))))))))))))))))
end Go.Sx.N
