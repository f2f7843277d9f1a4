/-
  The conditions of the functions. Conditions: none; printed by a program of our own.
-/
import Derived.Test.YtjljnieafhdkgaaGreatDoorIdxSpec
set_option maxRecDepth 20000
namespace Go.Sx.N
def V_WAdds : Prop :=
(∀ s0 : Sl,
((Ranged s0 [some .u16]) →
(∀ x1 : Int,
((Rng .i64 x1) →
(∀ x2 : Int,
((Rng .i64 x2) →
(∀ x3 : Int,
((Rng .i64 x3) →
(∀ x4 : Int,
((Rng .i64 x4) →
((p_WAdds s0 x1 x2 x3 x4) →
(p_xAwake ) ∧
(∀ b5 : Bool,
((q_xAwake  (decide (b5 = true))) →
(((¬ (b5 = true)) →
(q_WAdds s0 x1 x2 x3 x4 (decide False)) ∧ True) ∧
(¬ (¬ (b5 = true)) →
(p_iBuilt s0) ∧
(∀ y6 : ByteArray,
(∀ b7 : Bool,
(∀ s8 : Sl,
((Ranged s8 [some .i64, some .i64, some .i64, none, none, none, none]) →
((q_iBuilt s0 y6 (decide (b7 = true)) s8) →
(p_asked x1 x2) ∧
(∀ x9 : Int,
((Rng .i64 x9) →
(∀ x10 : Int,
((Rng .i64 x10) →
((q_asked x1 x2 x9 x10) →
(Rng .i64 (x10 - x9)) ∧
(Rng .i64 ((x10 - x9) + 1)) ∧
(p_kPick x3 ((x10 - x9) + 1)) ∧
(∀ x11 : Int,
((Rng .i64 x11) →
((q_kPick x3 ((x10 - x9) + 1) x11) →
(Rng .i64 (x9 + x11)) ∧
(p_xGrow y6 (decide (b7 = true)) s8 x9 (x9 + x11) x4) ∧
(∀ b12 : Bool,
(∀ s13 : Sl,
((Ranged s13 [some .u16]) →
(∀ b14 : Bool,
(∀ s15 : Sl,
((Ranged s15 [some .u16]) →
(∀ x16 : Int,
((Rng .i64 x16) →
((q_xGrow y6 (decide (b7 = true)) s8 x9 (x9 + x11) x4 (decide (b12 = true)) s13 (decide (b14 = true)) s15 x16) →
(p_xGrow y6 (decide (b7 = true)) s8 (x9 + x11) x10 x4) ∧
(∀ b17 : Bool,
(∀ s18 : Sl,
((Ranged s18 [some .u16]) →
(∀ b19 : Bool,
(∀ s20 : Sl,
((Ranged s20 [some .u16]) →
(∀ x21 : Int,
((Rng .i64 x21) →
((q_xGrow y6 (decide (b7 = true)) s8 (x9 + x11) x10 x4 (decide (b17 = true)) s18 (decide (b19 = true)) s20 x21) →
(p_xGrow y6 (decide (b7 = true)) s8 x9 x10 x4) ∧
(∀ b22 : Bool,
(∀ s23 : Sl,
((Ranged s23 [some .u16]) →
(∀ b24 : Bool,
(∀ s25 : Sl,
((Ranged s25 [some .u16]) →
(∀ x26 : Int,
((Rng .i64 x26) →
((q_xGrow y6 (decide (b7 = true)) s8 x9 x10 x4 (decide (b22 = true)) s23 (decide (b24 = true)) s25 x26) →
(p_xYears x9 (x9 + x11)) ∧
(∀ s27 : Sl,
((Ranged s27 [some .i64]) →
(∀ x28 : Int,
((Rng .i64 x28) →
((q_xYears x9 (x9 + x11) s27 x28) →
(p_xYears (x9 + x11) x10) ∧
(∀ s29 : Sl,
((Ranged s29 [some .i64]) →
(∀ x30 : Int,
((Rng .i64 x30) →
((q_xYears (x9 + x11) x10 s29 x30) →
(p_xYears x9 x10) ∧
(∀ s31 : Sl,
((Ranged s31 [some .i64]) →
(∀ x32 : Int,
((Rng .i64 x32) →
((q_xYears x9 x10 s31 x32) →
(Rng .i64 (x28 + x30)) ∧
(Rng .i64 ((x28 + x30) + x32)) ∧
(((((x28 + x30) + x32) ≠ 0) →
(q_WAdds s0 x1 x2 x3 x4 (decide False)) ∧ True) ∧
(¬ (((x28 + x30) + x32) ≠ 0) →
((((Sl.len s27) + (Sl.len s29)) * 8) ≤ 140737488355328) ∧
(p_kSameInts (Sl.app s27 s29) s31) ∧
(∀ b33 : Bool,
((q_kSameInts (Sl.app s27 s29) s31 (decide (b33 = true))) →
(((¬ (b33 = true)) →
(q_WAdds s0 x1 x2 x3 x4 (decide False)) ∧ True) ∧
(¬ (¬ (b33 = true)) →
(Rng .i64 (x16 + x21)) ∧
(((¬ ((x26 = 0) ↔ ((x16 + x21) = 0))) →
(q_WAdds s0 x1 x2 x3 x4 (decide False)) ∧ True) ∧
(¬ (¬ ((x26 = 0) ↔ ((x16 + x21) = 0))) →
(((x26 ≠ 0) →
(q_WAdds s0 x1 x2 x3 x4 (decide (x26 = 6))) ∧ True) ∧
(¬ (x26 ≠ 0) →
(p_fMul (decide (b12 = true)) s13 (decide (b14 = true)) s15 (decide (b17 = true)) s18 (decide (b19 = true)) s20) ∧
(∀ b34 : Bool,
(∀ s35 : Sl,
((Ranged s35 [some .u16]) →
(∀ b36 : Bool,
(∀ s37 : Sl,
((Ranged s37 [some .u16]) →
(∀ x38 : Int,
((Rng .i64 x38) →
((q_fMul (decide (b12 = true)) s13 (decide (b14 = true)) s15 (decide (b17 = true)) s18 (decide (b19 = true)) s20 (decide (b34 = true)) s35 (decide (b36 = true)) s37 x38) →
(((x38 = 0) →
(p_kSameFrac (decide (b34 = true)) s35 (decide (b36 = true)) s37 (decide (b22 = true)) s23 (decide (b24 = true)) s25) ∧
(∀ b39 : Bool,
((q_kSameFrac (decide (b34 = true)) s35 (decide (b36 = true)) s37 (decide (b22 = true)) s23 (decide (b24 = true)) s25 (decide (b39 = true))) →
(q_WAdds s0 x1 x2 x3 x4 (decide (b39 = true))) ∧ True))) ∧
(¬ (x38 = 0) →
(q_WAdds s0 x1 x2 x3 x4 (decide False)) ∧ True)))))))))))))))))))))))))))))))))))))))))))))))))))))))))))))))))))))))))))))))))))))))))))
end Go.Sx.N
