/-
  The conditions of the functions. Conditions: none; printed by a program of our own.
-/
import Derived.Test.YtjljnieafhdkgaaGreatDoorIdxSpec
set_option maxRecDepth 20000
namespace Go.Sx.N
def V_WLearns_0 (s0 : Sl) (x1 : Int) (x2 : Int) (x3 : Int) (x4 : Int) (x5 : Int) (b106 : Bool) (s107 : Sl) (b108 : Bool) (s109 : Sl) (x110 : Int) (b111 : Bool) (s112 : Sl) (b113 : Bool) (s114 : Sl) (x115 : Int) : Prop :=
(((x110 = x115) →
(p_kSameFrac (decide (b106 = true)) s107 (decide (b108 = true)) s109 (decide (b111 = true)) s112 (decide (b113 = true)) s114) ∧
(∀ b200 : Bool,
((q_kSameFrac (decide (b106 = true)) s107 (decide (b108 = true)) s109 (decide (b111 = true)) s112 (decide (b113 = true)) s114 (decide (b200 = true))) →
(q_WLearns s0 x1 x2 x3 x4 x5 (decide (b200 = true))) ∧ True))) ∧
(¬ (x110 = x115) →
(q_WLearns s0 x1 x2 x3 x4 x5 (decide False)) ∧ True))
def V_WLearns_1 (s0 : Sl) (x1 : Int) (x2 : Int) (x3 : Int) (x4 : Int) (x5 : Int) (b116 : Bool) (s117 : Sl) (b118 : Bool) (s119 : Sl) (x120 : Int) (b121 : Bool) (s122 : Sl) (b123 : Bool) (s124 : Sl) (x125 : Int) (b126 : Bool) (s127 : Sl) (b128 : Bool) (s129 : Sl) : Prop :=
(p_fAdd (decide (b126 = true)) s127 (decide (b128 = true)) s129 (decide (b116 = true)) s117 (decide (b118 = true)) s119) ∧
(∀ b200 : Bool,
(∀ s201 : Sl,
((Ranged s201 [some .u16]) →
(∀ b202 : Bool,
(∀ s203 : Sl,
((Ranged s203 [some .u16]) →
(∀ x204 : Int,
((Rng .i64 x204) →
((q_fAdd (decide (b126 = true)) s127 (decide (b128 = true)) s129 (decide (b116 = true)) s117 (decide (b118 = true)) s119 (decide (b200 = true)) s201 (decide (b202 = true)) s203 x204) →
(Rng .i64 (x120 + x125)) ∧
(Rng .i64 ((x120 + x125) + x204)) ∧
(((((x120 + x125) + x204) = 0) →
(p_kSameFrac (decide (b121 = true)) s122 (decide (b123 = true)) s124 (decide (b200 = true)) s201 (decide (b202 = true)) s203) ∧
(∀ b205 : Bool,
((q_kSameFrac (decide (b121 = true)) s122 (decide (b123 = true)) s124 (decide (b200 = true)) s201 (decide (b202 = true)) s203 (decide (b205 = true))) →
(q_WLearns s0 x1 x2 x3 x4 x5 (decide (b205 = true))) ∧ True))) ∧
(¬ (((x120 + x125) + x204) = 0) →
(q_WLearns s0 x1 x2 x3 x4 x5 (decide False)) ∧ True)))))))))))
def V_WLearns_2 (s0 : Sl) (x1 : Int) (x2 : Int) (x3 : Int) (x4 : Int) (x5 : Int) (y7 : ByteArray) (b8 : Bool) (s9 : Sl) (x10 : Int) (x11 : Int) (x12 : Int) (x13 : Int) (x14 : Int) (b15 : Bool) (s16 : Sl) (b17 : Bool) (s18 : Sl) : Prop :=
(p_Learn y7 (decide (b8 = true)) s9 x12 x13 x14 (decide (b15 = true)) s16 (decide (b17 = true)) s18) ∧
(∀ y100 : ByteArray,
(∀ b101 : Bool,
(∀ s102 : Sl,
((Ranged s102 [some .i64, some .i64, some .i64, none, none, none, none]) →
(∀ x103 : Int,
((Rng .i64 x103) →
((q_Learn y7 (decide (b8 = true)) s9 x12 x13 x14 (decide (b15 = true)) s16 (decide (b17 = true)) s18 y100 (decide (b101 = true)) s102 x103) →
(p_cDay (1900 + (Int.tmod x1 100)) 1 1) ∧
(∀ x104 : Int,
((Rng .i64 x104) →
(∀ x105 : Int,
((Rng .i64 x105) →
((q_cDay (1900 + (Int.tmod x1 100)) 1 1 x104 x105) →
(p_xGrow y7 (decide (b8 = true)) s9 x10 x11 x5) ∧
(∀ b106 : Bool,
(∀ s107 : Sl,
((Ranged s107 [some .u16]) →
(∀ b108 : Bool,
(∀ s109 : Sl,
((Ranged s109 [some .u16]) →
(∀ x110 : Int,
((Rng .i64 x110) →
((q_xGrow y7 (decide (b8 = true)) s9 x10 x11 x5 (decide (b106 = true)) s107 (decide (b108 = true)) s109 x110) →
(p_xGrow y100 (decide (b101 = true)) s102 x10 x11 x5) ∧
(∀ b111 : Bool,
(∀ s112 : Sl,
((Ranged s112 [some .u16]) →
(∀ b113 : Bool,
(∀ s114 : Sl,
((Ranged s114 [some .u16]) →
(∀ x115 : Int,
((Rng .i64 x115) →
((q_xGrow y100 (decide (b101 = true)) s102 x10 x11 x5 (decide (b111 = true)) s112 (decide (b113 = true)) s114 x115) →
(Rng .i64 (x103 + x105)) ∧
((((x103 + x105) ≠ 0) →
(q_WLearns s0 x1 x2 x3 x4 x5 (decide False)) ∧ True) ∧
(¬ ((x103 + x105) ≠ 0) →
(((x5 < x2) →
(V_WLearns_0 s0 x1 x2 x3 x4 x5 b106 s107 b108 s109 x110 b111 s112 b113 s114 x115)) ∧
(¬ (x5 < x2) →
(((x11 ≤ x104) →
(V_WLearns_0 s0 x1 x2 x3 x4 x5 b106 s107 b108 s109 x110 b111 s112 b113 s114 x115)) ∧
(¬ (x11 ≤ x104) →
(p_Look y100 (decide (b101 = true)) s102 (1900 + (Int.tmod x1 100)) x5) ∧
(∀ b116 : Bool,
(∀ s117 : Sl,
((Ranged s117 [some .u16]) →
(∀ b118 : Bool,
(∀ s119 : Sl,
((Ranged s119 [some .u16]) →
(∀ x120 : Int,
((Rng .i64 x120) →
((q_Look y100 (decide (b101 = true)) s102 (1900 + (Int.tmod x1 100)) x5 (decide (b116 = true)) s117 (decide (b118 = true)) s119 x120) →
(Rng .i64 (x104 + 1)) ∧
(p_xGrow y100 (decide (b101 = true)) s102 x104 (x104 + 1) x5) ∧
(∀ b121 : Bool,
(∀ s122 : Sl,
((Ranged s122 [some .u16]) →
(∀ b123 : Bool,
(∀ s124 : Sl,
((Ranged s124 [some .u16]) →
(∀ x125 : Int,
((Rng .i64 x125) →
((q_xGrow y100 (decide (b101 = true)) s102 x104 (x104 + 1) x5 (decide (b121 = true)) s122 (decide (b123 = true)) s124 x125) →
(((p_iOne ) ∧
(∀ b126 : Bool,
(∀ s127 : Sl,
((Ranged s127 [some .u16]) →
(∀ b128 : Bool,
(∀ s129 : Sl,
((Ranged s129 [some .u16]) →
((q_iOne  (decide (b126 = true)) s127 (decide (b128 = true)) s129) →
(((V_WLearns_1 s0 x1 x2 x3 x4 x5 b116 s117 b118 s119 x120 b121 s122 b123 s124 x125 b126 s127 b128 s129)) ∧
((V_WLearns_1 s0 x1 x2 x3 x4 x5 b116 s117 b118 s119 x120 b121 s122 b123 s124 x125 b126 s127 b128 s129))))))))))) ∧
((p_iOne ) ∧
(∀ b126 : Bool,
(∀ s127 : Sl,
((Ranged s127 [some .u16]) →
(∀ b128 : Bool,
(∀ s129 : Sl,
((Ranged s129 [some .u16]) →
((q_iOne  (decide (b126 = true)) s127 (decide (b128 = true)) s129) →
(V_WLearns_1 s0 x1 x2 x3 x4 x5 b116 s117 b118 s119 x120 b121 s122 b123 s124 x125 b126 s127 b128 s129))))))))))))))))))))))))))))))))))))))))))))))))))))))))))))))))
def V_WLearns : Prop :=
(∀ s0 : Sl,
((Ranged s0 [some .u16]) →
(∀ x1 : Int,
((Rng .u16 x1) →
(∀ x2 : Int,
((Rng .u16 x2) →
(∀ x3 : Int,
((Rng .i64 x3) →
(∀ x4 : Int,
((Rng .i64 x4) →
(∀ x5 : Int,
((Rng .i64 x5) →
((p_WLearns s0 x1 x2 x3 x4 x5) →
(p_xAwake ) ∧
(∀ b6 : Bool,
((q_xAwake  (decide (b6 = true))) →
(((¬ (b6 = true)) →
(q_WLearns s0 x1 x2 x3 x4 x5 (decide False)) ∧ True) ∧
(¬ (¬ (b6 = true)) →
(p_iBuilt s0) ∧
(∀ y7 : ByteArray,
(∀ b8 : Bool,
(∀ s9 : Sl,
((Ranged s9 [some .i64, some .i64, some .i64, none, none, none, none]) →
((q_iBuilt s0 y7 (decide (b8 = true)) s9) →
(p_asked x3 x4) ∧
(∀ x10 : Int,
((Rng .i64 x10) →
(∀ x11 : Int,
((Rng .i64 x11) →
((q_asked x3 x4 x10 x11) →
((100 : Int) ≠ 0) ∧
(Rng .i64 (Int.tmod x1 100)) ∧
(Rng .i64 (1900 + (Int.tmod x1 100))) ∧
((77 : Int) ≠ 0) ∧
(Rng .i64 (Int.tmod x1 77)) ∧
(((p_iRow (1900 + (Int.tmod x1 100)) x2 (Int.tmod x1 77) 1000) ∧
(∀ x12 : Int,
((Rng .i64 x12) →
(∀ x13 : Int,
((Rng .i64 x13) →
(∀ x14 : Int,
((Rng .i64 x14) →
(∀ b15 : Bool,
(∀ s16 : Sl,
((Ranged s16 [some .u16]) →
(∀ b17 : Bool,
(∀ s18 : Sl,
((Ranged s18 [some .u16]) →
((q_iRow (1900 + (Int.tmod x1 100)) x2 (Int.tmod x1 77) 1000 x12 x13 x14 (decide (b15 = true)) s16 (decide (b17 = true)) s18) →
(((V_WLearns_2 s0 x1 x2 x3 x4 x5 y7 b8 s9 x10 x11 x12 x13 x14 b15 s16 b17 s18)) ∧
((V_WLearns_2 s0 x1 x2 x3 x4 x5 y7 b8 s9 x10 x11 x12 x13 x14 b15 s16 b17 s18))))))))))))))))) ∧
((p_iRow (1900 + (Int.tmod x1 100)) x2 (Int.tmod x1 77) 1000) ∧
(∀ x12 : Int,
((Rng .i64 x12) →
(∀ x13 : Int,
((Rng .i64 x13) →
(∀ x14 : Int,
((Rng .i64 x14) →
(∀ b15 : Bool,
(∀ s16 : Sl,
((Ranged s16 [some .u16]) →
(∀ b17 : Bool,
(∀ s18 : Sl,
((Ranged s18 [some .u16]) →
((q_iRow (1900 + (Int.tmod x1 100)) x2 (Int.tmod x1 77) 1000 x12 x13 x14 (decide (b15 = true)) s16 (decide (b17 = true)) s18) →
(V_WLearns_2 s0 x1 x2 x3 x4 x5 y7 b8 s9 x10 x11 x12 x13 x14 b15 s16 b17 s18)))))))))))))))))))))))))))))))))))))))))))
end Go.Sx.N
