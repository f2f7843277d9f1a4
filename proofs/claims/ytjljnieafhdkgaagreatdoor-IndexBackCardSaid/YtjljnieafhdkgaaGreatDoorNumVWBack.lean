/-
  The conditions of the functions. Conditions: none; printed by a program of our own.
-/
import Derived.Test.YtjljnieafhdkgaaGreatDoorIdxSpec
set_option maxRecDepth 20000
namespace Go.Sx.N
def V_WBack_0 (s0 : Sl) (x1 : Int) (x2 : Int) (x3 : Int) (x4 : Int) (y6 : ByteArray) (b7 : Bool) (s8 : Sl) (x9 : Int) (x10 : Int) (b11 : Bool) (s12 : Sl) (b13 : Bool) (s14 : Sl) (b15 : Bool) (s16 : Sl) (b17 : Bool) (s18 : Sl) (x19 : Int) (b20 : Bool) (s21 : Sl) (b22 : Bool) (s23 : Sl) (x24 : Int) (b25 : Bool) (s26 : Sl) (b27 : Bool) (s28 : Sl) (x29 : Int) (b30 : Bool) (s31 : Sl) (b32 : Bool) (s33 : Sl) : Prop :=
(p_xRaise (decide (b30 = true)) s31 (decide (b32 = true)) s33 y6 (decide (b7 = true)) s8 x9 x10 x3) ∧
(∀ b100 : Bool,
(∀ s101 : Sl,
((Ranged s101 [some .u16]) →
(∀ b102 : Bool,
(∀ s103 : Sl,
((Ranged s103 [some .u16]) →
(∀ x104 : Int,
((Rng .i64 x104) →
((q_xRaise (decide (b30 = true)) s31 (decide (b32 = true)) s33 y6 (decide (b7 = true)) s8 x9 x10 x3 (decide (b100 = true)) s101 (decide (b102 = true)) s103 x104) →
(((x19 ≠ x24) →
(q_WBack s0 x1 x2 x3 x4 (decide False)) ∧ True) ∧
(¬ (x19 ≠ x24) →
(((x19 ≠ x29) →
(q_WBack s0 x1 x2 x3 x4 (decide False)) ∧ True) ∧
(¬ (x19 ≠ x29) →
(((x19 ≠ x104) →
(q_WBack s0 x1 x2 x3 x4 (decide False)) ∧ True) ∧
(¬ (x19 ≠ x104) →
(((x19 ≠ 0) →
(((x19 = 6) →
(p_kLimbs (decide (b20 = true)) s21 (decide (b22 = true)) s23) ∧
(∀ x105 : Int,
((Rng .i64 x105) →
((q_kLimbs (decide (b20 = true)) s21 (decide (b22 = true)) s23 x105) →
(p_kLimbs (decide (b25 = true)) s26 (decide (b27 = true)) s28) ∧
(∀ x106 : Int,
((Rng .i64 x106) →
((q_kLimbs (decide (b25 = true)) s26 (decide (b27 = true)) s28 x106) →
(Rng .i64 (x105 + x106)) ∧
(q_WBack s0 x1 x2 x3 x4 (decide ((x105 + x106) = 0))) ∧ True))))))) ∧
(¬ (x19 = 6) →
(q_WBack s0 x1 x2 x3 x4 (decide False)) ∧ True))) ∧
(¬ (x19 ≠ 0) →
(p_xLower (decide (b20 = true)) s21 (decide (b22 = true)) s23 y6 (decide (b7 = true)) s8 x9 x10 x3) ∧
(∀ b105 : Bool,
(∀ s106 : Sl,
((Ranged s106 [some .u16]) →
(∀ b107 : Bool,
(∀ s108 : Sl,
((Ranged s108 [some .u16]) →
(∀ x109 : Int,
((Rng .i64 x109) →
((q_xLower (decide (b20 = true)) s21 (decide (b22 = true)) s23 y6 (decide (b7 = true)) s8 x9 x10 x3 (decide (b105 = true)) s106 (decide (b107 = true)) s108 x109) →
(p_xRaise (decide (b25 = true)) s26 (decide (b27 = true)) s28 y6 (decide (b7 = true)) s8 x9 x10 x3) ∧
(∀ b110 : Bool,
(∀ s111 : Sl,
((Ranged s111 [some .u16]) →
(∀ b112 : Bool,
(∀ s113 : Sl,
((Ranged s113 [some .u16]) →
(∀ x114 : Int,
((Rng .i64 x114) →
((q_xRaise (decide (b25 = true)) s26 (decide (b27 = true)) s28 y6 (decide (b7 = true)) s8 x9 x10 x3 (decide (b110 = true)) s111 (decide (b112 = true)) s113 x114) →
(p_iRow 1900 0 (-1) 1) ∧
(∀ x115 : Int,
((Rng .i64 x115) →
(∀ x116 : Int,
((Rng .i64 x116) →
(∀ x117 : Int,
((Rng .i64 x117) →
(∀ b118 : Bool,
(∀ s119 : Sl,
((Ranged s119 [some .u16]) →
(∀ b120 : Bool,
(∀ s121 : Sl,
((Ranged s121 [some .u16]) →
((q_iRow 1900 0 (-1) 1 x115 x116 x117 (decide (b118 = true)) s119 (decide (b120 = true)) s121) →
(p_xRaise (decide (b11 = true)) s12 (decide (b13 = true)) s14 (bytes [122, 101, 114, 111]) (decide False) (Sl.lit [[(.int x115), (.int x116), (.int x117), (.bool (decide (b118 = true))), (Sl.d s119), (.bool (decide (b120 = true))), (Sl.d s121)]]) 0 1 0) ∧
(∀ b122 : Bool,
(∀ s123 : Sl,
((Ranged s123 [some .u16]) →
(∀ b124 : Bool,
(∀ s125 : Sl,
((Ranged s125 [some .u16]) →
(∀ x126 : Int,
((Rng .i64 x126) →
((q_xRaise (decide (b11 = true)) s12 (decide (b13 = true)) s14 (bytes [122, 101, 114, 111]) (decide False) (Sl.lit [[(.int x115), (.int x116), (.int x117), (.bool (decide (b118 = true))), (Sl.d s119), (.bool (decide (b120 = true))), (Sl.d s121)]]) 0 1 0 (decide (b122 = true)) s123 (decide (b124 = true)) s125 x126) →
(p_xLower (decide (b11 = true)) s12 (decide (b13 = true)) s14 (bytes [122, 101, 114, 111]) (decide False) (Sl.lit [[(.int x115), (.int x116), (.int x117), (.bool (decide (b118 = true))), (Sl.d s119), (.bool (decide (b120 = true))), (Sl.d s121)]]) 0 1 0) ∧
(∀ b127 : Bool,
(∀ s128 : Sl,
((Ranged s128 [some .u16]) →
(∀ b129 : Bool,
(∀ s130 : Sl,
((Ranged s130 [some .u16]) →
(∀ x131 : Int,
((Rng .i64 x131) →
((q_xLower (decide (b11 = true)) s12 (decide (b13 = true)) s14 (bytes [122, 101, 114, 111]) (decide False) (Sl.lit [[(.int x115), (.int x116), (.int x117), (.bool (decide (b118 = true))), (Sl.d s119), (.bool (decide (b120 = true))), (Sl.d s121)]]) 0 1 0 (decide (b127 = true)) s128 (decide (b129 = true)) s130 x131) →
(Rng .i64 (x109 + x114)) ∧
(Rng .i64 ((x109 + x114) + x126)) ∧
(((((x109 + x114) + x126) = 0) →
(p_kSameFrac (decide (b105 = true)) s106 (decide (b107 = true)) s108 (decide (b11 = true)) s12 (decide (b13 = true)) s14) ∧
(∀ b132 : Bool,
((q_kSameFrac (decide (b105 = true)) s106 (decide (b107 = true)) s108 (decide (b11 = true)) s12 (decide (b13 = true)) s14 (decide (b132 = true))) →
(((b132 = true) →
(p_kSameFrac (decide (b110 = true)) s111 (decide (b112 = true)) s113 (decide (b11 = true)) s12 (decide (b13 = true)) s14) ∧
(∀ b133 : Bool,
((q_kSameFrac (decide (b110 = true)) s111 (decide (b112 = true)) s113 (decide (b11 = true)) s12 (decide (b13 = true)) s14 (decide (b133 = true))) →
(((b133 = true) →
(p_kSameFrac (decide (b100 = true)) s101 (decide (b102 = true)) s103 (decide (b15 = true)) s16 (decide (b17 = true)) s18) ∧
(∀ b134 : Bool,
((q_kSameFrac (decide (b100 = true)) s101 (decide (b102 = true)) s103 (decide (b15 = true)) s16 (decide (b17 = true)) s18 (decide (b134 = true))) →
(((b134 = true) →
(p_kFrac 0 1) ∧
(∀ b135 : Bool,
(∀ s136 : Sl,
((Ranged s136 [some .u16]) →
(∀ b137 : Bool,
(∀ s138 : Sl,
((Ranged s138 [some .u16]) →
((q_kFrac 0 1 (decide (b135 = true)) s136 (decide (b137 = true)) s138) →
(p_kSameFrac (decide (b122 = true)) s123 (decide (b124 = true)) s125 (decide (b135 = true)) s136 (decide (b137 = true)) s138) ∧
(∀ b139 : Bool,
((q_kSameFrac (decide (b122 = true)) s123 (decide (b124 = true)) s125 (decide (b135 = true)) s136 (decide (b137 = true)) s138 (decide (b139 = true))) →
(((b139 = true) →
(q_WBack s0 x1 x2 x3 x4 (decide (x131 = 20))) ∧ True) ∧
(¬ (b139 = true) →
(q_WBack s0 x1 x2 x3 x4 (decide False)) ∧ True)))))))))))) ∧
(¬ (b134 = true) →
(q_WBack s0 x1 x2 x3 x4 (decide False)) ∧ True))))) ∧
(¬ (b133 = true) →
(q_WBack s0 x1 x2 x3 x4 (decide False)) ∧ True))))) ∧
(¬ (b132 = true) →
(q_WBack s0 x1 x2 x3 x4 (decide False)) ∧ True))))) ∧
(¬ (((x109 + x114) + x126) = 0) →
(q_WBack s0 x1 x2 x3 x4 (decide False)) ∧ True))))))))))))))))))))))))))))))))))))))))))))))))))))))))))))))))))))
def V_WBack : Prop :=
(∀ s0 : Sl,
((Ranged s0 [some .u16]) →
(∀ x1 : Int,
((Rng .i64 x1) →
(∀ x2 : Int,
((Rng .i64 x2) →
(∀ x3 : Int,
((Rng .i64 x3) →
(∀ x4 : Int,
((Rng .u16 x4) →
((p_WBack s0 x1 x2 x3 x4) →
(p_xAwake ) ∧
(∀ b5 : Bool,
((q_xAwake  (decide (b5 = true))) →
(((¬ (b5 = true)) →
(q_WBack s0 x1 x2 x3 x4 (decide False)) ∧ True) ∧
(¬ (¬ (b5 = true)) →
(p_iBuilt s0) ∧
(∀ y6 : ByteArray,
(∀ b7 : Bool,
(∀ s8 : Sl,
((Ranged s8 [some .i64, some .i64, some .i64, none, none, none, none]) →
((q_iBuilt s0 y6 (decide (b7 = true)) s8) →
(p_asked x1 x2) ∧
(∀ x9 : Int,
((Rng .i64 x9) →
(∀ x10 : Int,
((Rng .i64 x10) →
((q_asked x1 x2 x9 x10) →
(Rng .i64 (x4 - 9)) ∧
(p_kFrac (x4 - 9) 1000) ∧
(∀ b11 : Bool,
(∀ s12 : Sl,
((Ranged s12 [some .u16]) →
(∀ b13 : Bool,
(∀ s14 : Sl,
((Ranged s14 [some .u16]) →
((q_kFrac (x4 - 9) 1000 (decide (b11 = true)) s12 (decide (b13 = true)) s14) →
(p_xGrow y6 (decide (b7 = true)) s8 x9 x10 x3) ∧
(∀ b15 : Bool,
(∀ s16 : Sl,
((Ranged s16 [some .u16]) →
(∀ b17 : Bool,
(∀ s18 : Sl,
((Ranged s18 [some .u16]) →
(∀ x19 : Int,
((Rng .i64 x19) →
((q_xGrow y6 (decide (b7 = true)) s8 x9 x10 x3 (decide (b15 = true)) s16 (decide (b17 = true)) s18 x19) →
(p_xRaise (decide (b11 = true)) s12 (decide (b13 = true)) s14 y6 (decide (b7 = true)) s8 x9 x10 x3) ∧
(∀ b20 : Bool,
(∀ s21 : Sl,
((Ranged s21 [some .u16]) →
(∀ b22 : Bool,
(∀ s23 : Sl,
((Ranged s23 [some .u16]) →
(∀ x24 : Int,
((Rng .i64 x24) →
((q_xRaise (decide (b11 = true)) s12 (decide (b13 = true)) s14 y6 (decide (b7 = true)) s8 x9 x10 x3 (decide (b20 = true)) s21 (decide (b22 = true)) s23 x24) →
(p_xLower (decide (b11 = true)) s12 (decide (b13 = true)) s14 y6 (decide (b7 = true)) s8 x9 x10 x3) ∧
(∀ b25 : Bool,
(∀ s26 : Sl,
((Ranged s26 [some .u16]) →
(∀ b27 : Bool,
(∀ s28 : Sl,
((Ranged s28 [some .u16]) →
(∀ x29 : Int,
((Rng .i64 x29) →
((q_xLower (decide (b11 = true)) s12 (decide (b13 = true)) s14 y6 (decide (b7 = true)) s8 x9 x10 x3 (decide (b25 = true)) s26 (decide (b27 = true)) s28 x29) →
(((p_iOne ) ∧
(∀ b30 : Bool,
(∀ s31 : Sl,
((Ranged s31 [some .u16]) →
(∀ b32 : Bool,
(∀ s33 : Sl,
((Ranged s33 [some .u16]) →
((q_iOne  (decide (b30 = true)) s31 (decide (b32 = true)) s33) →
(((V_WBack_0 s0 x1 x2 x3 x4 y6 b7 s8 x9 x10 b11 s12 b13 s14 b15 s16 b17 s18 x19 b20 s21 b22 s23 x24 b25 s26 b27 s28 x29 b30 s31 b32 s33)) ∧
((V_WBack_0 s0 x1 x2 x3 x4 y6 b7 s8 x9 x10 b11 s12 b13 s14 b15 s16 b17 s18 x19 b20 s21 b22 s23 x24 b25 s26 b27 s28 x29 b30 s31 b32 s33))))))))))) ∧
((p_iOne ) ∧
(∀ b30 : Bool,
(∀ s31 : Sl,
((Ranged s31 [some .u16]) →
(∀ b32 : Bool,
(∀ s33 : Sl,
((Ranged s33 [some .u16]) →
((q_iOne  (decide (b30 = true)) s31 (decide (b32 = true)) s33) →
(V_WBack_0 s0 x1 x2 x3 x4 y6 b7 s8 x9 x10 b11 s12 b13 s14 b15 s16 b17 s18 x19 b20 s21 b22 s23 x24 b25 s26 b27 s28 x29 b30 s31 b32 s33)))))))))))))))))))))))))))))))))))))))))))))))))))))))))))))))))))))
end Go.Sx.N
