/-
  The conditions of the functions. Conditions: none; printed by a program of our own.
-/
import Derived.Test.YtjljnieafhdkgaaGreatDoorIdxSpec
set_option maxRecDepth 20000
namespace Go.Sx.N
def V_WOnly_0 (s0 : Sl) (x1 : Int) (x2 : Int) (x3 : Int) (y5 : ByteArray) (b6 : Bool) (s7 : Sl) (x8 : Int) (x9 : Int) (s10 : Sl) (b12 : Bool) (s13 : Sl) (b14 : Bool) (s15 : Sl) (x16 : Int) : Prop :=
((Small s10) →
((((Sl.len s10) = 0) →
(((x16 = 0) →
(p_iOne ) ∧
(∀ b100 : Bool,
(∀ s101 : Sl,
((Ranged s101 [some .u16]) →
(∀ b102 : Bool,
(∀ s103 : Sl,
((Ranged s103 [some .u16]) →
((q_iOne  (decide (b100 = true)) s101 (decide (b102 = true)) s103) →
(p_kSameFrac (decide (b12 = true)) s13 (decide (b14 = true)) s15 (decide (b100 = true)) s101 (decide (b102 = true)) s103) ∧
(∀ b104 : Bool,
((q_kSameFrac (decide (b12 = true)) s13 (decide (b14 = true)) s15 (decide (b100 = true)) s101 (decide (b102 = true)) s103 (decide (b104 = true))) →
(q_WOnly s0 x1 x2 x3 (decide (b104 = true))) ∧ True)))))))))) ∧
(¬ (x16 = 0) →
(q_WOnly s0 x1 x2 x3 (decide False)) ∧ True))) ∧
(¬ ((Sl.len s10) = 0) →
((0 : Int) ≤ 0) ∧
((0 : Int) < (Sl.len s10)) ∧
((Rng .i64 (Sl.int s10 0 0)) →
(p_cDay (Sl.int s10 0 0) 1 1) ∧
(∀ x100 : Int,
((Rng .i64 x100) →
(∀ x101 : Int,
((Rng .i64 x101) →
((q_cDay (Sl.int s10 0 0) 1 1 x100 x101) →
((Small s10) →
(Rng .i64 ((Sl.len s10) - 1)) ∧
((0 : Int) ≤ ((Sl.len s10) - 1)) ∧
(((Sl.len s10) - 1) < (Sl.len s10)) ∧
((Rng .i64 (Sl.int s10 ((Sl.len s10) - 1) 0)) →
(p_cDay (Sl.int s10 ((Sl.len s10) - 1) 0) 1 1) ∧
(∀ x102 : Int,
((Rng .i64 x102) →
(∀ x103 : Int,
((Rng .i64 x103) →
((q_cDay (Sl.int s10 ((Sl.len s10) - 1) 0) 1 1 x102 x103) →
(Rng .i64 (x102 + 1)) ∧
(p_xGrow y5 (decide (b6 = true)) s7 x100 (x102 + 1) x3) ∧
(∀ b104 : Bool,
(∀ s105 : Sl,
((Ranged s105 [some .u16]) →
(∀ b106 : Bool,
(∀ s107 : Sl,
((Ranged s107 [some .u16]) →
(∀ x108 : Int,
((Rng .i64 x108) →
((q_xGrow y5 (decide (b6 = true)) s7 x100 (x102 + 1) x3 (decide (b104 = true)) s105 (decide (b106 = true)) s107 x108) →
((Small s10) →
(∃ (J109 : Int → Prop) (M109 : Int → Nat), J109 0 ∧
(∀ x110 : Int,
((Rng .i64 x110) →
(J109 x110 →
(((x110 < (Sl.len s10)) →
((0 : Int) ≤ x110) ∧
(x110 < (Sl.len s10)) ∧
((Rng .i64 (Sl.int s10 x110 0)) →
(((x110 > 0) →
(Rng .i64 (x110 - 1)) ∧
((0 : Int) ≤ (x110 - 1)) ∧
((x110 - 1) < (Sl.len s10)) ∧
((Rng .i64 (Sl.int s10 (x110 - 1) 0)) →
(Rng .i64 ((Sl.int s10 (x110 - 1) 0) + 1)) ∧
((((Sl.int s10 x110 0) ≠ ((Sl.int s10 (x110 - 1) 0) + 1)) →
(q_WOnly s0 x1 x2 x3 (decide False)) ∧ True) ∧
(¬ ((Sl.int s10 x110 0) ≠ ((Sl.int s10 (x110 - 1) 0) + 1)) →
(Rng .i64 (x110 + 1)) ∧
(J109 (x110 + 1) ∧ M109 (x110 + 1) < M109 x110))))) ∧
(¬ (x110 > 0) →
(Rng .i64 (x110 + 1)) ∧
(J109 (x110 + 1) ∧ M109 (x110 + 1) < M109 x110))))) ∧
(¬ (x110 < (Sl.len s10)) →
(Rng .i64 (x101 + x103)) ∧
((((x101 + x103) = 0) →
(((x100 ≥ x8) →
(((x102 < x9) →
(((x16 = x108) →
(p_kSameFrac (decide (b12 = true)) s13 (decide (b14 = true)) s15 (decide (b104 = true)) s105 (decide (b106 = true)) s107) ∧
(∀ b111 : Bool,
((q_kSameFrac (decide (b12 = true)) s13 (decide (b14 = true)) s15 (decide (b104 = true)) s105 (decide (b106 = true)) s107 (decide (b111 = true))) →
(q_WOnly s0 x1 x2 x3 (decide (b111 = true))) ∧ True))) ∧
(¬ (x16 = x108) →
(q_WOnly s0 x1 x2 x3 (decide False)) ∧ True))) ∧
(¬ (x102 < x9) →
(q_WOnly s0 x1 x2 x3 (decide False)) ∧ True))) ∧
(¬ (x100 ≥ x8) →
(q_WOnly s0 x1 x2 x3 (decide False)) ∧ True))) ∧
(¬ ((x101 + x103) = 0) →
(q_WOnly s0 x1 x2 x3 (decide False)) ∧ True))))))))))))))))))))))))))))))))))
def V_WOnly : Prop :=
(∀ s0 : Sl,
((Ranged s0 [some .u16]) →
(∀ x1 : Int,
((Rng .i64 x1) →
(∀ x2 : Int,
((Rng .i64 x2) →
(∀ x3 : Int,
((Rng .i64 x3) →
((p_WOnly s0 x1 x2 x3) →
(p_xAwake ) ∧
(∀ b4 : Bool,
((q_xAwake  (decide (b4 = true))) →
(((¬ (b4 = true)) →
(q_WOnly s0 x1 x2 x3 (decide False)) ∧ True) ∧
(¬ (¬ (b4 = true)) →
(p_iBuilt s0) ∧
(∀ y5 : ByteArray,
(∀ b6 : Bool,
(∀ s7 : Sl,
((Ranged s7 [some .i64, some .i64, some .i64, none, none, none, none]) →
((q_iBuilt s0 y5 (decide (b6 = true)) s7) →
(p_asked x1 x2) ∧
(∀ x8 : Int,
((Rng .i64 x8) →
(∀ x9 : Int,
((Rng .i64 x9) →
((q_asked x1 x2 x8 x9) →
(p_xYears x8 x9) ∧
(∀ s10 : Sl,
((Ranged s10 [some .i64]) →
(∀ x11 : Int,
((Rng .i64 x11) →
((q_xYears x8 x9 s10 x11) →
(p_xGrow y5 (decide (b6 = true)) s7 x8 x9 x3) ∧
(∀ b12 : Bool,
(∀ s13 : Sl,
((Ranged s13 [some .u16]) →
(∀ b14 : Bool,
(∀ s15 : Sl,
((Ranged s15 [some .u16]) →
(∀ x16 : Int,
((Rng .i64 x16) →
((q_xGrow y5 (decide (b6 = true)) s7 x8 x9 x3 (decide (b12 = true)) s13 (decide (b14 = true)) s15 x16) →
(p_xGrow y5 (decide (b6 = true)) s7 x9 x8 x3) ∧
(∀ b17 : Bool,
(∀ s18 : Sl,
((Ranged s18 [some .u16]) →
(∀ b19 : Bool,
(∀ s20 : Sl,
((Ranged s20 [some .u16]) →
(∀ x21 : Int,
((Rng .i64 x21) →
((q_xGrow y5 (decide (b6 = true)) s7 x9 x8 x3 (decide (b17 = true)) s18 (decide (b19 = true)) s20 x21) →
(((x11 ≠ 0) →
(q_WOnly s0 x1 x2 x3 (decide False)) ∧ True) ∧
(¬ (x11 ≠ 0) →
(((x8 < x9) →
(((x21 ≠ 0) →
(q_WOnly s0 x1 x2 x3 (decide False)) ∧ True) ∧
(¬ (x21 ≠ 0) →
(p_iOne ) ∧
(∀ b22 : Bool,
(∀ s23 : Sl,
((Ranged s23 [some .u16]) →
(∀ b24 : Bool,
(∀ s25 : Sl,
((Ranged s25 [some .u16]) →
((q_iOne  (decide (b22 = true)) s23 (decide (b24 = true)) s25) →
(p_kSameFrac (decide (b17 = true)) s18 (decide (b19 = true)) s20 (decide (b22 = true)) s23 (decide (b24 = true)) s25) ∧
(∀ b26 : Bool,
((q_kSameFrac (decide (b17 = true)) s18 (decide (b19 = true)) s20 (decide (b22 = true)) s23 (decide (b24 = true)) s25 (decide (b26 = true))) →
(((¬ (b26 = true)) →
(q_WOnly s0 x1 x2 x3 (decide False)) ∧ True) ∧
(¬ (¬ (b26 = true)) →
(V_WOnly_0 s0 x1 x2 x3 y5 b6 s7 x8 x9 s10 b12 s13 b14 s15 x16))))))))))))))) ∧
(¬ (x8 < x9) →
(V_WOnly_0 s0 x1 x2 x3 y5 b6 s7 x8 x9 s10 b12 s13 b14 s15 x16)))))))))))))))))))))))))))))))))))))))))))))))))))
end Go.Sx.N
