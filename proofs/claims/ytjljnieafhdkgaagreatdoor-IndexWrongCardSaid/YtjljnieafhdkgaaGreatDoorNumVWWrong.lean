/-
  The conditions of the functions. Conditions: none; printed by a program of our own.
-/
import Derived.Test.YtjljnieafhdkgaaGreatDoorIdxSpec
set_option maxRecDepth 20000
namespace Go.Sx.N
def V_WWrong_0 (s0 : Sl) (x1 : Int) (x2 : Int) (x3 : Int) (s12 : Sl) (s14 : Sl) (b16 : Bool) (s17 : Sl) (b18 : Bool) (s19 : Sl) (b21 : Bool) (s22 : Sl) (b23 : Bool) (s24 : Sl) (b26 : Bool) (s27 : Sl) (b28 : Bool) (s29 : Sl) : Prop :=
(Rng .i64 ((Sl.len s12) + (Sl.len s14))) ∧
(p_kLimbs (decide (b16 = true)) s17 (decide (b18 = true)) s19) ∧
(∀ x200 : Int,
((Rng .i64 x200) →
((q_kLimbs (decide (b16 = true)) s17 (decide (b18 = true)) s19 x200) →
(Rng .i64 (((Sl.len s12) + (Sl.len s14)) + x200)) ∧
(p_kLimbs (decide (b21 = true)) s22 (decide (b23 = true)) s24) ∧
(∀ x201 : Int,
((Rng .i64 x201) →
((q_kLimbs (decide (b21 = true)) s22 (decide (b23 = true)) s24 x201) →
(Rng .i64 ((((Sl.len s12) + (Sl.len s14)) + x200) + x201)) ∧
(p_kLimbs (decide (b26 = true)) s27 (decide (b28 = true)) s29) ∧
(∀ x202 : Int,
((Rng .i64 x202) →
((q_kLimbs (decide (b26 = true)) s27 (decide (b28 = true)) s29 x202) →
(Rng .i64 (((((Sl.len s12) + (Sl.len s14)) + x200) + x201) + x202)) ∧
(q_WWrong s0 x1 x2 x3 (decide ((((((Sl.len s12) + (Sl.len s14)) + x200) + x201) + x202) = 0))) ∧ True)))))))))
def V_WWrong_1 (s0 : Sl) (x1 : Int) (x2 : Int) (x3 : Int) (s12 : Sl) (s14 : Sl) (b26 : Bool) (s27 : Sl) (b28 : Bool) (s29 : Sl) (x127 : Int) (x200 : Int) : Prop :=
(Rng .i64 ((((Sl.len s12) + (Sl.len s14)) + x127) + x200)) ∧
(p_kLimbs (decide (b26 = true)) s27 (decide (b28 = true)) s29) ∧
(∀ x300 : Int,
((Rng .i64 x300) →
((q_kLimbs (decide (b26 = true)) s27 (decide (b28 = true)) s29 x300) →
(Rng .i64 (((((Sl.len s12) + (Sl.len s14)) + x127) + x200) + x300)) ∧
(q_WWrong s0 x1 x2 x3 (decide ((((((Sl.len s12) + (Sl.len s14)) + x127) + x200) + x300) = 0))) ∧ True)))
def V_WWrong_2 (s0 : Sl) (x1 : Int) (x2 : Int) (x3 : Int) (s12 : Sl) (s14 : Sl) (b21 : Bool) (s22 : Sl) (b23 : Bool) (s24 : Sl) (b26 : Bool) (s27 : Sl) (b28 : Bool) (s29 : Sl) (x127 : Int) : Prop :=
((((Small s14) →
(Rng .i64 ((Sl.len s12) + (Sl.len s14))) ∧
(Rng .i64 (((Sl.len s12) + (Sl.len s14)) + x127)) ∧
(p_kLimbs (decide (b21 = true)) s22 (decide (b23 = true)) s24) ∧
(∀ x200 : Int,
((Rng .i64 x200) →
((q_kLimbs (decide (b21 = true)) s22 (decide (b23 = true)) s24 x200) →
(V_WWrong_1 s0 x1 x2 x3 s12 s14 b26 s27 b28 s29 x127 x200)))))) ∧
((p_kLimbs (decide (b21 = true)) s22 (decide (b23 = true)) s24) ∧
(∀ x200 : Int,
((Rng .i64 x200) →
((q_kLimbs (decide (b21 = true)) s22 (decide (b23 = true)) s24 x200) →
((((Small s14) →
(Rng .i64 ((Sl.len s12) + (Sl.len s14))) ∧
(Rng .i64 (((Sl.len s12) + (Sl.len s14)) + x127)) ∧
(V_WWrong_1 s0 x1 x2 x3 s12 s14 b26 s27 b28 s29 x127 x200))) ∧
((p_kLimbs (decide (b26 = true)) s27 (decide (b28 = true)) s29) ∧
(∀ x201 : Int,
((Rng .i64 x201) →
((q_kLimbs (decide (b26 = true)) s27 (decide (b28 = true)) s29 x201) →
((Small s14) →
(Rng .i64 ((Sl.len s12) + (Sl.len s14))) ∧
(Rng .i64 (((Sl.len s12) + (Sl.len s14)) + x127)) ∧
(Rng .i64 ((((Sl.len s12) + (Sl.len s14)) + x127) + x200)) ∧
(Rng .i64 (((((Sl.len s12) + (Sl.len s14)) + x127) + x200) + x201)) ∧
(q_WWrong s0 x1 x2 x3 (decide ((((((Sl.len s12) + (Sl.len s14)) + x127) + x200) + x201) = 0))) ∧ True)))))))))))
def V_WWrong_3 (s0 : Sl) (x1 : Int) (x2 : Int) (x3 : Int) (s12 : Sl) (s14 : Sl) (b21 : Bool) (s22 : Sl) (b23 : Bool) (s24 : Sl) (b26 : Bool) (s27 : Sl) (b28 : Bool) (s29 : Sl) (x127 : Int) : Prop :=
(Rng .i64 ((Sl.len s12) + (Sl.len s14))) ∧
(Rng .i64 (((Sl.len s12) + (Sl.len s14)) + x127)) ∧
(p_kLimbs (decide (b21 = true)) s22 (decide (b23 = true)) s24) ∧
(∀ x300 : Int,
((Rng .i64 x300) →
((q_kLimbs (decide (b21 = true)) s22 (decide (b23 = true)) s24 x300) →
(Rng .i64 ((((Sl.len s12) + (Sl.len s14)) + x127) + x300)) ∧
(p_kLimbs (decide (b26 = true)) s27 (decide (b28 = true)) s29) ∧
(∀ x301 : Int,
((Rng .i64 x301) →
((q_kLimbs (decide (b26 = true)) s27 (decide (b28 = true)) s29 x301) →
(Rng .i64 (((((Sl.len s12) + (Sl.len s14)) + x127) + x300) + x301)) ∧
(q_WWrong s0 x1 x2 x3 (decide ((((((Sl.len s12) + (Sl.len s14)) + x127) + x300) + x301) = 0))) ∧ True))))))
def V_WWrong_4 (s0 : Sl) (x1 : Int) (x2 : Int) (x3 : Int) (s12 : Sl) (s14 : Sl) (b26 : Bool) (s27 : Sl) (b28 : Bool) (s29 : Sl) (x127 : Int) (x200 : Int) : Prop :=
(Rng .i64 ((((Sl.len s12) + (Sl.len s14)) + x127) + x200)) ∧
(p_kLimbs (decide (b26 = true)) s27 (decide (b28 = true)) s29) ∧
(∀ x400 : Int,
((Rng .i64 x400) →
((q_kLimbs (decide (b26 = true)) s27 (decide (b28 = true)) s29 x400) →
(Rng .i64 (((((Sl.len s12) + (Sl.len s14)) + x127) + x200) + x400)) ∧
(q_WWrong s0 x1 x2 x3 (decide ((((((Sl.len s12) + (Sl.len s14)) + x127) + x200) + x400) = 0))) ∧ True)))
def V_WWrong_5 (s0 : Sl) (x1 : Int) (x2 : Int) (x3 : Int) (s12 : Sl) (s14 : Sl) (b26 : Bool) (s27 : Sl) (b28 : Bool) (s29 : Sl) (x127 : Int) (x200 : Int) : Prop :=
(Rng .i64 ((Sl.len s12) + (Sl.len s14))) ∧
(Rng .i64 (((Sl.len s12) + (Sl.len s14)) + x127)) ∧
(V_WWrong_4 s0 x1 x2 x3 s12 s14 b26 s27 b28 s29 x127 x200)
def V_WWrong_6 (s0 : Sl) (x1 : Int) (x2 : Int) (x3 : Int) (s12 : Sl) (s14 : Sl) (x127 : Int) (x200 : Int) (x201 : Int) : Prop :=
(Rng .i64 ((Sl.len s12) + (Sl.len s14))) ∧
(Rng .i64 (((Sl.len s12) + (Sl.len s14)) + x127)) ∧
(Rng .i64 ((((Sl.len s12) + (Sl.len s14)) + x127) + x200)) ∧
(Rng .i64 (((((Sl.len s12) + (Sl.len s14)) + x127) + x200) + x201)) ∧
(q_WWrong s0 x1 x2 x3 (decide ((((((Sl.len s12) + (Sl.len s14)) + x127) + x200) + x201) = 0))) ∧ True
def V_WWrong_7 (s0 : Sl) (x1 : Int) (x2 : Int) (x3 : Int) (s12 : Sl) (s14 : Sl) (b21 : Bool) (s22 : Sl) (b23 : Bool) (s24 : Sl) (b26 : Bool) (s27 : Sl) (b28 : Bool) (s29 : Sl) (x127 : Int) : Prop :=
((((Small s12) →
(V_WWrong_3 s0 x1 x2 x3 s12 s14 b21 s22 b23 s24 b26 s27 b28 s29 x127))) ∧
((p_kLimbs (decide (b21 = true)) s22 (decide (b23 = true)) s24) ∧
(∀ x200 : Int,
((Rng .i64 x200) →
((q_kLimbs (decide (b21 = true)) s22 (decide (b23 = true)) s24 x200) →
((((Small s12) →
(V_WWrong_5 s0 x1 x2 x3 s12 s14 b26 s27 b28 s29 x127 x200))) ∧
((p_kLimbs (decide (b26 = true)) s27 (decide (b28 = true)) s29) ∧
(∀ x201 : Int,
((Rng .i64 x201) →
((q_kLimbs (decide (b26 = true)) s27 (decide (b28 = true)) s29 x201) →
((Small s12) →
(V_WWrong_6 s0 x1 x2 x3 s12 s14 x127 x200 x201))))))))))))
def V_WWrong_8 (s0 : Sl) (x1 : Int) (x2 : Int) (x3 : Int) (s12 : Sl) (s14 : Sl) (b26 : Bool) (s27 : Sl) (b28 : Bool) (s29 : Sl) (x127 : Int) (x128 : Int) : Prop :=
((((Small s14) →
(Rng .i64 ((Sl.len s12) + (Sl.len s14))) ∧
(Rng .i64 (((Sl.len s12) + (Sl.len s14)) + x127)) ∧
(Rng .i64 ((((Sl.len s12) + (Sl.len s14)) + x127) + x128)) ∧
(p_kLimbs (decide (b26 = true)) s27 (decide (b28 = true)) s29) ∧
(∀ x200 : Int,
((Rng .i64 x200) →
((q_kLimbs (decide (b26 = true)) s27 (decide (b28 = true)) s29 x200) →
(Rng .i64 (((((Sl.len s12) + (Sl.len s14)) + x127) + x128) + x200)) ∧
(q_WWrong s0 x1 x2 x3 (decide ((((((Sl.len s12) + (Sl.len s14)) + x127) + x128) + x200) = 0))) ∧ True))))) ∧
((p_kLimbs (decide (b26 = true)) s27 (decide (b28 = true)) s29) ∧
(∀ x200 : Int,
((Rng .i64 x200) →
((q_kLimbs (decide (b26 = true)) s27 (decide (b28 = true)) s29 x200) →
((Small s14) →
(Rng .i64 ((Sl.len s12) + (Sl.len s14))) ∧
(Rng .i64 (((Sl.len s12) + (Sl.len s14)) + x127)) ∧
(Rng .i64 ((((Sl.len s12) + (Sl.len s14)) + x127) + x128)) ∧
(Rng .i64 (((((Sl.len s12) + (Sl.len s14)) + x127) + x128) + x200)) ∧
(q_WWrong s0 x1 x2 x3 (decide ((((((Sl.len s12) + (Sl.len s14)) + x127) + x128) + x200) = 0))) ∧ True))))))
def V_WWrong_9 (s0 : Sl) (x1 : Int) (x2 : Int) (x3 : Int) (s12 : Sl) (s14 : Sl) (b26 : Bool) (s27 : Sl) (b28 : Bool) (s29 : Sl) (x127 : Int) (x128 : Int) : Prop :=
(Rng .i64 ((Sl.len s12) + (Sl.len s14))) ∧
(Rng .i64 (((Sl.len s12) + (Sl.len s14)) + x127)) ∧
(Rng .i64 ((((Sl.len s12) + (Sl.len s14)) + x127) + x128)) ∧
(p_kLimbs (decide (b26 = true)) s27 (decide (b28 = true)) s29) ∧
(∀ x300 : Int,
((Rng .i64 x300) →
((q_kLimbs (decide (b26 = true)) s27 (decide (b28 = true)) s29 x300) →
(Rng .i64 (((((Sl.len s12) + (Sl.len s14)) + x127) + x128) + x300)) ∧
(q_WWrong s0 x1 x2 x3 (decide ((((((Sl.len s12) + (Sl.len s14)) + x127) + x128) + x300) = 0))) ∧ True)))
def V_WWrong_10 (s0 : Sl) (x1 : Int) (x2 : Int) (x3 : Int) (s12 : Sl) (s14 : Sl) (x127 : Int) (x128 : Int) (x200 : Int) : Prop :=
(Rng .i64 ((Sl.len s12) + (Sl.len s14))) ∧
(Rng .i64 (((Sl.len s12) + (Sl.len s14)) + x127)) ∧
(Rng .i64 ((((Sl.len s12) + (Sl.len s14)) + x127) + x128)) ∧
(Rng .i64 (((((Sl.len s12) + (Sl.len s14)) + x127) + x128) + x200)) ∧
(q_WWrong s0 x1 x2 x3 (decide ((((((Sl.len s12) + (Sl.len s14)) + x127) + x128) + x200) = 0))) ∧ True
def V_WWrong_11 (s0 : Sl) (x1 : Int) (x2 : Int) (x3 : Int) (s12 : Sl) (s14 : Sl) (b26 : Bool) (s27 : Sl) (b28 : Bool) (s29 : Sl) (x127 : Int) (x128 : Int) : Prop :=
((((Small s12) →
(V_WWrong_9 s0 x1 x2 x3 s12 s14 b26 s27 b28 s29 x127 x128))) ∧
((p_kLimbs (decide (b26 = true)) s27 (decide (b28 = true)) s29) ∧
(∀ x200 : Int,
((Rng .i64 x200) →
((q_kLimbs (decide (b26 = true)) s27 (decide (b28 = true)) s29 x200) →
((Small s12) →
(V_WWrong_10 s0 x1 x2 x3 s12 s14 x127 x128 x200)))))))
def V_WWrong_12 (s0 : Sl) (x1 : Int) (x2 : Int) (x3 : Int) (s12 : Sl) (s14 : Sl) (x127 : Int) (x128 : Int) (x129 : Int) : Prop :=
(Rng .i64 ((Sl.len s12) + (Sl.len s14))) ∧
(Rng .i64 (((Sl.len s12) + (Sl.len s14)) + x127)) ∧
(Rng .i64 ((((Sl.len s12) + (Sl.len s14)) + x127) + x128)) ∧
(Rng .i64 (((((Sl.len s12) + (Sl.len s14)) + x127) + x128) + x129)) ∧
(q_WWrong s0 x1 x2 x3 (decide ((((((Sl.len s12) + (Sl.len s14)) + x127) + x128) + x129) = 0))) ∧ True
def V_WWrong_13 (s0 : Sl) (x1 : Int) (x2 : Int) (x3 : Int) (s12 : Sl) (s14 : Sl) (x127 : Int) (x128 : Int) (x129 : Int) : Prop :=
((Small s14) →
(V_WWrong_12 s0 x1 x2 x3 s12 s14 x127 x128 x129))
def V_WWrong_14 (s0 : Sl) (x1 : Int) (x2 : Int) (x3 : Int) (s12 : Sl) (s14 : Sl) (x127 : Int) (x128 : Int) (x129 : Int) : Prop :=
((Small s12) →
(V_WWrong_12 s0 x1 x2 x3 s12 s14 x127 x128 x129))
def V_WWrong_15 (s0 : Sl) (x1 : Int) (x2 : Int) (x3 : Int) (y5 : ByteArray) (b6 : Bool) (s7 : Sl) (b8 : Bool) (s9 : Sl) (b10 : Bool) (s11 : Sl) (s12 : Sl) (x13 : Int) (s14 : Sl) (x15 : Int) (b16 : Bool) (s17 : Sl) (b18 : Bool) (s19 : Sl) (x20 : Int) (b21 : Bool) (s22 : Sl) (b23 : Bool) (s24 : Sl) (x25 : Int) (b26 : Bool) (s27 : Sl) (b28 : Bool) (s29 : Sl) (x30 : Int) : Prop :=
(p_xGrow y5 (decide (b6 = true)) s7 (imin x1 (-1)) 9 0) ∧
(∀ b100 : Bool,
(∀ s101 : Sl,
((Ranged s101 [some .u16]) →
(∀ b102 : Bool,
(∀ s103 : Sl,
((Ranged s103 [some .u16]) →
(∀ x104 : Int,
((Rng .i64 x104) →
((q_xGrow y5 (decide (b6 = true)) s7 (imin x1 (-1)) 9 0 (decide (b100 = true)) s101 (decide (b102 = true)) s103 x104) →
(p_xRaise (decide (b8 = true)) s9 (decide (b10 = true)) s11 y5 (decide (b6 = true)) s7 9 (imax x2 65537) 0) ∧
(∀ b105 : Bool,
(∀ s106 : Sl,
((Ranged s106 [some .u16]) →
(∀ b107 : Bool,
(∀ s108 : Sl,
((Ranged s108 [some .u16]) →
(∀ x109 : Int,
((Rng .i64 x109) →
((q_xRaise (decide (b8 = true)) s9 (decide (b10 = true)) s11 y5 (decide (b6 = true)) s7 9 (imax x2 65537) 0 (decide (b105 = true)) s106 (decide (b107 = true)) s108 x109) →
(p_xLower (decide (b8 = true)) s9 (decide (b10 = true)) s11 y5 (decide (b6 = true)) s7 (imax x2 65537) 9 0) ∧
(∀ b110 : Bool,
(∀ s111 : Sl,
((Ranged s111 [some .u16]) →
(∀ b112 : Bool,
(∀ s113 : Sl,
((Ranged s113 [some .u16]) →
(∀ x114 : Int,
((Rng .i64 x114) →
((q_xLower (decide (b8 = true)) s9 (decide (b10 = true)) s11 y5 (decide (b6 = true)) s7 (imax x2 65537) 9 0 (decide (b110 = true)) s111 (decide (b112 = true)) s113 x114) →
(p_xRaise (decide False) Sl.nil (decide False) Sl.nil y5 (decide (b6 = true)) s7 9 9 0) ∧
(∀ b115 : Bool,
(∀ s116 : Sl,
((Ranged s116 [some .u16]) →
(∀ b117 : Bool,
(∀ s118 : Sl,
((Ranged s118 [some .u16]) →
(∀ x119 : Int,
((Rng .i64 x119) →
((q_xRaise (decide False) Sl.nil (decide False) Sl.nil y5 (decide (b6 = true)) s7 9 9 0 (decide (b115 = true)) s116 (decide (b117 = true)) s118 x119) →
(p_xLower (decide (b8 = true)) s9 (decide False) Sl.nil y5 (decide (b6 = true)) s7 9 9 0) ∧
(∀ b120 : Bool,
(∀ s121 : Sl,
((Ranged s121 [some .u16]) →
(∀ b122 : Bool,
(∀ s123 : Sl,
((Ranged s123 [some .u16]) →
(∀ x124 : Int,
((Rng .i64 x124) →
((q_xLower (decide (b8 = true)) s9 (decide False) Sl.nil y5 (decide (b6 = true)) s7 9 9 0 (decide (b120 = true)) s121 (decide (b122 = true)) s123 x124) →
((Small (Sl.lit [[(.int x13)], [(.int x15)], [(.int x20)], [(.int x25)], [(.int x30)], [(.int x104)], [(.int x109)], [(.int x114)], [(.int x119)], [(.int x124)]])) →
(∃ (J125 : Int → Prop) (M125 : Int → Nat), J125 0 ∧
(∀ x126 : Int,
((Rng .i64 x126) →
(J125 x126 →
(((x126 < (Sl.len (Sl.lit [[(.int x13)], [(.int x15)], [(.int x20)], [(.int x25)], [(.int x30)], [(.int x104)], [(.int x109)], [(.int x114)], [(.int x119)], [(.int x124)]]))) →
((0 : Int) ≤ x126) ∧
(x126 < (Sl.len (Sl.lit [[(.int x13)], [(.int x15)], [(.int x20)], [(.int x25)], [(.int x30)], [(.int x104)], [(.int x109)], [(.int x114)], [(.int x119)], [(.int x124)]]))) ∧
((Rng .i64 (Sl.int (Sl.lit [[(.int x13)], [(.int x15)], [(.int x20)], [(.int x25)], [(.int x30)], [(.int x104)], [(.int x109)], [(.int x114)], [(.int x119)], [(.int x124)]]) x126 0)) →
((((Sl.int (Sl.lit [[(.int x13)], [(.int x15)], [(.int x20)], [(.int x25)], [(.int x30)], [(.int x104)], [(.int x109)], [(.int x114)], [(.int x119)], [(.int x124)]]) x126 0) ≠ 2) →
(q_WWrong s0 x1 x2 x3 (decide False)) ∧ True) ∧
(¬ ((Sl.int (Sl.lit [[(.int x13)], [(.int x15)], [(.int x20)], [(.int x25)], [(.int x30)], [(.int x104)], [(.int x109)], [(.int x114)], [(.int x119)], [(.int x124)]]) x126 0) ≠ 2) →
(Rng .i64 (x126 + 1)) ∧
(J125 (x126 + 1) ∧ M125 (x126 + 1) < M125 x126))))) ∧
(¬ (x126 < (Sl.len (Sl.lit [[(.int x13)], [(.int x15)], [(.int x20)], [(.int x25)], [(.int x30)], [(.int x104)], [(.int x109)], [(.int x114)], [(.int x119)], [(.int x124)]]))) →
((((Small s12) →
((((Small s14) →
(V_WWrong_0 s0 x1 x2 x3 s12 s14 b16 s17 b18 s19 b21 s22 b23 s24 b26 s27 b28 s29))) ∧
((p_kLimbs (decide (b16 = true)) s17 (decide (b18 = true)) s19) ∧
(∀ x127 : Int,
((Rng .i64 x127) →
((q_kLimbs (decide (b16 = true)) s17 (decide (b18 = true)) s19 x127) →
(V_WWrong_2 s0 x1 x2 x3 s12 s14 b21 s22 b23 s24 b26 s27 b28 s29 x127)))))))) ∧
(((((Small s14) →
((((Small s12) →
(V_WWrong_0 s0 x1 x2 x3 s12 s14 b16 s17 b18 s19 b21 s22 b23 s24 b26 s27 b28 s29))) ∧
((p_kLimbs (decide (b16 = true)) s17 (decide (b18 = true)) s19) ∧
(∀ x127 : Int,
((Rng .i64 x127) →
((q_kLimbs (decide (b16 = true)) s17 (decide (b18 = true)) s19 x127) →
(V_WWrong_7 s0 x1 x2 x3 s12 s14 b21 s22 b23 s24 b26 s27 b28 s29 x127)))))))) ∧
((p_kLimbs (decide (b16 = true)) s17 (decide (b18 = true)) s19) ∧
(∀ x127 : Int,
((Rng .i64 x127) →
((q_kLimbs (decide (b16 = true)) s17 (decide (b18 = true)) s19 x127) →
((((Small s12) →
(V_WWrong_2 s0 x1 x2 x3 s12 s14 b21 s22 b23 s24 b26 s27 b28 s29 x127))) ∧
(((((Small s14) →
(V_WWrong_7 s0 x1 x2 x3 s12 s14 b21 s22 b23 s24 b26 s27 b28 s29 x127))) ∧
((p_kLimbs (decide (b21 = true)) s22 (decide (b23 = true)) s24) ∧
(∀ x128 : Int,
((Rng .i64 x128) →
((q_kLimbs (decide (b21 = true)) s22 (decide (b23 = true)) s24 x128) →
((((Small s12) →
(V_WWrong_8 s0 x1 x2 x3 s12 s14 b26 s27 b28 s29 x127 x128))) ∧
(((((Small s14) →
(V_WWrong_11 s0 x1 x2 x3 s12 s14 b26 s27 b28 s29 x127 x128))) ∧
((p_kLimbs (decide (b26 = true)) s27 (decide (b28 = true)) s29) ∧
(∀ x129 : Int,
((Rng .i64 x129) →
((q_kLimbs (decide (b26 = true)) s27 (decide (b28 = true)) s29 x129) →
((((Small s12) →
(V_WWrong_13 s0 x1 x2 x3 s12 s14 x127 x128 x129))) ∧
(((Small s14) →
(V_WWrong_14 s0 x1 x2 x3 s12 s14 x127 x128 x129)))))))))))))))))))))))))))))))))))))))))))))))))))))))))))))))))))))))))))))
def V_WWrong_16 (s0 : Sl) (x1 : Int) (x2 : Int) (x3 : Int) (s26 : Sl) (s28 : Sl) (b30 : Bool) (s31 : Sl) (b32 : Bool) (s33 : Sl) (b35 : Bool) (s36 : Sl) (b37 : Bool) (s38 : Sl) (b40 : Bool) (s41 : Sl) (b42 : Bool) (s43 : Sl) : Prop :=
(Rng .i64 ((Sl.len s26) + (Sl.len s28))) ∧
(p_kLimbs (decide (b30 = true)) s31 (decide (b32 = true)) s33) ∧
(∀ x100 : Int,
((Rng .i64 x100) →
((q_kLimbs (decide (b30 = true)) s31 (decide (b32 = true)) s33 x100) →
(Rng .i64 (((Sl.len s26) + (Sl.len s28)) + x100)) ∧
(p_kLimbs (decide (b35 = true)) s36 (decide (b37 = true)) s38) ∧
(∀ x101 : Int,
((Rng .i64 x101) →
((q_kLimbs (decide (b35 = true)) s36 (decide (b37 = true)) s38 x101) →
(Rng .i64 ((((Sl.len s26) + (Sl.len s28)) + x100) + x101)) ∧
(p_kLimbs (decide (b40 = true)) s41 (decide (b42 = true)) s43) ∧
(∀ x102 : Int,
((Rng .i64 x102) →
((q_kLimbs (decide (b40 = true)) s41 (decide (b42 = true)) s43 x102) →
(Rng .i64 (((((Sl.len s26) + (Sl.len s28)) + x100) + x101) + x102)) ∧
(q_WWrong s0 x1 x2 x3 (decide ((((((Sl.len s26) + (Sl.len s28)) + x100) + x101) + x102) = 0))) ∧ True)))))))))
def V_WWrong_17 (s0 : Sl) (x1 : Int) (x2 : Int) (x3 : Int) (s26 : Sl) (s28 : Sl) (b40 : Bool) (s41 : Sl) (b42 : Bool) (s43 : Sl) (x72 : Int) (x100 : Int) : Prop :=
(Rng .i64 ((((Sl.len s26) + (Sl.len s28)) + x72) + x100)) ∧
(p_kLimbs (decide (b40 = true)) s41 (decide (b42 = true)) s43) ∧
(∀ x200 : Int,
((Rng .i64 x200) →
((q_kLimbs (decide (b40 = true)) s41 (decide (b42 = true)) s43 x200) →
(Rng .i64 (((((Sl.len s26) + (Sl.len s28)) + x72) + x100) + x200)) ∧
(q_WWrong s0 x1 x2 x3 (decide ((((((Sl.len s26) + (Sl.len s28)) + x72) + x100) + x200) = 0))) ∧ True)))
def V_WWrong_18 (s0 : Sl) (x1 : Int) (x2 : Int) (x3 : Int) (s26 : Sl) (s28 : Sl) (b35 : Bool) (s36 : Sl) (b37 : Bool) (s38 : Sl) (b40 : Bool) (s41 : Sl) (b42 : Bool) (s43 : Sl) (x72 : Int) : Prop :=
((((Small s28) →
(Rng .i64 ((Sl.len s26) + (Sl.len s28))) ∧
(Rng .i64 (((Sl.len s26) + (Sl.len s28)) + x72)) ∧
(p_kLimbs (decide (b35 = true)) s36 (decide (b37 = true)) s38) ∧
(∀ x100 : Int,
((Rng .i64 x100) →
((q_kLimbs (decide (b35 = true)) s36 (decide (b37 = true)) s38 x100) →
(V_WWrong_17 s0 x1 x2 x3 s26 s28 b40 s41 b42 s43 x72 x100)))))) ∧
((p_kLimbs (decide (b35 = true)) s36 (decide (b37 = true)) s38) ∧
(∀ x100 : Int,
((Rng .i64 x100) →
((q_kLimbs (decide (b35 = true)) s36 (decide (b37 = true)) s38 x100) →
((((Small s28) →
(Rng .i64 ((Sl.len s26) + (Sl.len s28))) ∧
(Rng .i64 (((Sl.len s26) + (Sl.len s28)) + x72)) ∧
(V_WWrong_17 s0 x1 x2 x3 s26 s28 b40 s41 b42 s43 x72 x100))) ∧
((p_kLimbs (decide (b40 = true)) s41 (decide (b42 = true)) s43) ∧
(∀ x101 : Int,
((Rng .i64 x101) →
((q_kLimbs (decide (b40 = true)) s41 (decide (b42 = true)) s43 x101) →
((Small s28) →
(Rng .i64 ((Sl.len s26) + (Sl.len s28))) ∧
(Rng .i64 (((Sl.len s26) + (Sl.len s28)) + x72)) ∧
(Rng .i64 ((((Sl.len s26) + (Sl.len s28)) + x72) + x100)) ∧
(Rng .i64 (((((Sl.len s26) + (Sl.len s28)) + x72) + x100) + x101)) ∧
(q_WWrong s0 x1 x2 x3 (decide ((((((Sl.len s26) + (Sl.len s28)) + x72) + x100) + x101) = 0))) ∧ True)))))))))))
def V_WWrong_19 (s0 : Sl) (x1 : Int) (x2 : Int) (x3 : Int) (s26 : Sl) (s28 : Sl) (b35 : Bool) (s36 : Sl) (b37 : Bool) (s38 : Sl) (b40 : Bool) (s41 : Sl) (b42 : Bool) (s43 : Sl) (x72 : Int) : Prop :=
(Rng .i64 ((Sl.len s26) + (Sl.len s28))) ∧
(Rng .i64 (((Sl.len s26) + (Sl.len s28)) + x72)) ∧
(p_kLimbs (decide (b35 = true)) s36 (decide (b37 = true)) s38) ∧
(∀ x200 : Int,
((Rng .i64 x200) →
((q_kLimbs (decide (b35 = true)) s36 (decide (b37 = true)) s38 x200) →
(Rng .i64 ((((Sl.len s26) + (Sl.len s28)) + x72) + x200)) ∧
(p_kLimbs (decide (b40 = true)) s41 (decide (b42 = true)) s43) ∧
(∀ x201 : Int,
((Rng .i64 x201) →
((q_kLimbs (decide (b40 = true)) s41 (decide (b42 = true)) s43 x201) →
(Rng .i64 (((((Sl.len s26) + (Sl.len s28)) + x72) + x200) + x201)) ∧
(q_WWrong s0 x1 x2 x3 (decide ((((((Sl.len s26) + (Sl.len s28)) + x72) + x200) + x201) = 0))) ∧ True))))))
def V_WWrong_20 (s0 : Sl) (x1 : Int) (x2 : Int) (x3 : Int) (s26 : Sl) (s28 : Sl) (b40 : Bool) (s41 : Sl) (b42 : Bool) (s43 : Sl) (x72 : Int) (x100 : Int) : Prop :=
(Rng .i64 ((((Sl.len s26) + (Sl.len s28)) + x72) + x100)) ∧
(p_kLimbs (decide (b40 = true)) s41 (decide (b42 = true)) s43) ∧
(∀ x300 : Int,
((Rng .i64 x300) →
((q_kLimbs (decide (b40 = true)) s41 (decide (b42 = true)) s43 x300) →
(Rng .i64 (((((Sl.len s26) + (Sl.len s28)) + x72) + x100) + x300)) ∧
(q_WWrong s0 x1 x2 x3 (decide ((((((Sl.len s26) + (Sl.len s28)) + x72) + x100) + x300) = 0))) ∧ True)))
def V_WWrong_21 (s0 : Sl) (x1 : Int) (x2 : Int) (x3 : Int) (s26 : Sl) (s28 : Sl) (b40 : Bool) (s41 : Sl) (b42 : Bool) (s43 : Sl) (x72 : Int) (x100 : Int) : Prop :=
(Rng .i64 ((Sl.len s26) + (Sl.len s28))) ∧
(Rng .i64 (((Sl.len s26) + (Sl.len s28)) + x72)) ∧
(V_WWrong_20 s0 x1 x2 x3 s26 s28 b40 s41 b42 s43 x72 x100)
def V_WWrong_22 (s0 : Sl) (x1 : Int) (x2 : Int) (x3 : Int) (s26 : Sl) (s28 : Sl) (x72 : Int) (x100 : Int) (x101 : Int) : Prop :=
(Rng .i64 ((Sl.len s26) + (Sl.len s28))) ∧
(Rng .i64 (((Sl.len s26) + (Sl.len s28)) + x72)) ∧
(Rng .i64 ((((Sl.len s26) + (Sl.len s28)) + x72) + x100)) ∧
(Rng .i64 (((((Sl.len s26) + (Sl.len s28)) + x72) + x100) + x101)) ∧
(q_WWrong s0 x1 x2 x3 (decide ((((((Sl.len s26) + (Sl.len s28)) + x72) + x100) + x101) = 0))) ∧ True
def V_WWrong_23 (s0 : Sl) (x1 : Int) (x2 : Int) (x3 : Int) (s26 : Sl) (s28 : Sl) (b35 : Bool) (s36 : Sl) (b37 : Bool) (s38 : Sl) (b40 : Bool) (s41 : Sl) (b42 : Bool) (s43 : Sl) (x72 : Int) : Prop :=
((((Small s26) →
(V_WWrong_19 s0 x1 x2 x3 s26 s28 b35 s36 b37 s38 b40 s41 b42 s43 x72))) ∧
((p_kLimbs (decide (b35 = true)) s36 (decide (b37 = true)) s38) ∧
(∀ x100 : Int,
((Rng .i64 x100) →
((q_kLimbs (decide (b35 = true)) s36 (decide (b37 = true)) s38 x100) →
((((Small s26) →
(V_WWrong_21 s0 x1 x2 x3 s26 s28 b40 s41 b42 s43 x72 x100))) ∧
((p_kLimbs (decide (b40 = true)) s41 (decide (b42 = true)) s43) ∧
(∀ x101 : Int,
((Rng .i64 x101) →
((q_kLimbs (decide (b40 = true)) s41 (decide (b42 = true)) s43 x101) →
((Small s26) →
(V_WWrong_22 s0 x1 x2 x3 s26 s28 x72 x100 x101))))))))))))
def V_WWrong_24 (s0 : Sl) (x1 : Int) (x2 : Int) (x3 : Int) (s26 : Sl) (s28 : Sl) (b40 : Bool) (s41 : Sl) (b42 : Bool) (s43 : Sl) (x72 : Int) (x73 : Int) : Prop :=
((((Small s28) →
(Rng .i64 ((Sl.len s26) + (Sl.len s28))) ∧
(Rng .i64 (((Sl.len s26) + (Sl.len s28)) + x72)) ∧
(Rng .i64 ((((Sl.len s26) + (Sl.len s28)) + x72) + x73)) ∧
(p_kLimbs (decide (b40 = true)) s41 (decide (b42 = true)) s43) ∧
(∀ x100 : Int,
((Rng .i64 x100) →
((q_kLimbs (decide (b40 = true)) s41 (decide (b42 = true)) s43 x100) →
(Rng .i64 (((((Sl.len s26) + (Sl.len s28)) + x72) + x73) + x100)) ∧
(q_WWrong s0 x1 x2 x3 (decide ((((((Sl.len s26) + (Sl.len s28)) + x72) + x73) + x100) = 0))) ∧ True))))) ∧
((p_kLimbs (decide (b40 = true)) s41 (decide (b42 = true)) s43) ∧
(∀ x100 : Int,
((Rng .i64 x100) →
((q_kLimbs (decide (b40 = true)) s41 (decide (b42 = true)) s43 x100) →
((Small s28) →
(Rng .i64 ((Sl.len s26) + (Sl.len s28))) ∧
(Rng .i64 (((Sl.len s26) + (Sl.len s28)) + x72)) ∧
(Rng .i64 ((((Sl.len s26) + (Sl.len s28)) + x72) + x73)) ∧
(Rng .i64 (((((Sl.len s26) + (Sl.len s28)) + x72) + x73) + x100)) ∧
(q_WWrong s0 x1 x2 x3 (decide ((((((Sl.len s26) + (Sl.len s28)) + x72) + x73) + x100) = 0))) ∧ True))))))
def V_WWrong_25 (s0 : Sl) (x1 : Int) (x2 : Int) (x3 : Int) (s26 : Sl) (s28 : Sl) (b40 : Bool) (s41 : Sl) (b42 : Bool) (s43 : Sl) (x72 : Int) (x73 : Int) : Prop :=
(Rng .i64 ((Sl.len s26) + (Sl.len s28))) ∧
(Rng .i64 (((Sl.len s26) + (Sl.len s28)) + x72)) ∧
(Rng .i64 ((((Sl.len s26) + (Sl.len s28)) + x72) + x73)) ∧
(p_kLimbs (decide (b40 = true)) s41 (decide (b42 = true)) s43) ∧
(∀ x200 : Int,
((Rng .i64 x200) →
((q_kLimbs (decide (b40 = true)) s41 (decide (b42 = true)) s43 x200) →
(Rng .i64 (((((Sl.len s26) + (Sl.len s28)) + x72) + x73) + x200)) ∧
(q_WWrong s0 x1 x2 x3 (decide ((((((Sl.len s26) + (Sl.len s28)) + x72) + x73) + x200) = 0))) ∧ True)))
def V_WWrong_26 (s0 : Sl) (x1 : Int) (x2 : Int) (x3 : Int) (s26 : Sl) (s28 : Sl) (x72 : Int) (x73 : Int) (x100 : Int) : Prop :=
(Rng .i64 ((Sl.len s26) + (Sl.len s28))) ∧
(Rng .i64 (((Sl.len s26) + (Sl.len s28)) + x72)) ∧
(Rng .i64 ((((Sl.len s26) + (Sl.len s28)) + x72) + x73)) ∧
(Rng .i64 (((((Sl.len s26) + (Sl.len s28)) + x72) + x73) + x100)) ∧
(q_WWrong s0 x1 x2 x3 (decide ((((((Sl.len s26) + (Sl.len s28)) + x72) + x73) + x100) = 0))) ∧ True
def V_WWrong_27 (s0 : Sl) (x1 : Int) (x2 : Int) (x3 : Int) (s26 : Sl) (s28 : Sl) (b40 : Bool) (s41 : Sl) (b42 : Bool) (s43 : Sl) (x72 : Int) (x73 : Int) : Prop :=
((((Small s26) →
(V_WWrong_25 s0 x1 x2 x3 s26 s28 b40 s41 b42 s43 x72 x73))) ∧
((p_kLimbs (decide (b40 = true)) s41 (decide (b42 = true)) s43) ∧
(∀ x100 : Int,
((Rng .i64 x100) →
((q_kLimbs (decide (b40 = true)) s41 (decide (b42 = true)) s43 x100) →
((Small s26) →
(V_WWrong_26 s0 x1 x2 x3 s26 s28 x72 x73 x100)))))))
def V_WWrong_28 (s0 : Sl) (x1 : Int) (x2 : Int) (x3 : Int) (s26 : Sl) (s28 : Sl) (x72 : Int) (x73 : Int) (x74 : Int) : Prop :=
(Rng .i64 ((Sl.len s26) + (Sl.len s28))) ∧
(Rng .i64 (((Sl.len s26) + (Sl.len s28)) + x72)) ∧
(Rng .i64 ((((Sl.len s26) + (Sl.len s28)) + x72) + x73)) ∧
(Rng .i64 (((((Sl.len s26) + (Sl.len s28)) + x72) + x73) + x74)) ∧
(q_WWrong s0 x1 x2 x3 (decide ((((((Sl.len s26) + (Sl.len s28)) + x72) + x73) + x74) = 0))) ∧ True
def V_WWrong_29 (s0 : Sl) (x1 : Int) (x2 : Int) (x3 : Int) (s26 : Sl) (s28 : Sl) (x72 : Int) (x73 : Int) (x74 : Int) : Prop :=
((Small s28) →
(V_WWrong_28 s0 x1 x2 x3 s26 s28 x72 x73 x74))
def V_WWrong_30 (s0 : Sl) (x1 : Int) (x2 : Int) (x3 : Int) (s26 : Sl) (s28 : Sl) (x72 : Int) (x73 : Int) (x74 : Int) : Prop :=
((Small s26) →
(V_WWrong_28 s0 x1 x2 x3 s26 s28 x72 x73 x74))
def V_WWrong : Prop :=
(∀ s0 : Sl,
((Ranged s0 [some .u16]) →
(∀ x1 : Int,
((Rng .i64 x1) →
(∀ x2 : Int,
((Rng .i64 x2) →
(∀ x3 : Int,
((Rng .u8 x3) →
((p_WWrong s0 x1 x2 x3) →
(p_xAwake ) ∧
(∀ b4 : Bool,
((q_xAwake  (decide (b4 = true))) →
(((¬ (b4 = true)) →
(q_WWrong s0 x1 x2 x3 (decide False)) ∧ True) ∧
(¬ (¬ (b4 = true)) →
(p_iBuilt s0) ∧
(∀ y5 : ByteArray,
(∀ b6 : Bool,
(∀ s7 : Sl,
((Ranged s7 [some .i64, some .i64, some .i64, none, none, none, none]) →
((q_iBuilt s0 y5 (decide (b6 = true)) s7) →
((3 : Int) ≠ 0) ∧
(Rng .u8 (Int.tmod x3 3)) ∧
((((Int.tmod x3 3) = 0) →
(p_kFrac 1 3) ∧
(∀ b8 : Bool,
(∀ s9 : Sl,
((Ranged s9 [some .u16]) →
(∀ b10 : Bool,
(∀ s11 : Sl,
((Ranged s11 [some .u16]) →
((q_kFrac 1 3 (decide (b8 = true)) s9 (decide (b10 = true)) s11) →
(p_xYears (imin x1 (-1)) 9) ∧
(∀ s12 : Sl,
((Ranged s12 [some .i64]) →
(∀ x13 : Int,
((Rng .i64 x13) →
((q_xYears (imin x1 (-1)) 9 s12 x13) →
(p_xYears 9 (imax x2 65537)) ∧
(∀ s14 : Sl,
((Ranged s14 [some .i64]) →
(∀ x15 : Int,
((Rng .i64 x15) →
((q_xYears 9 (imax x2 65537) s14 x15) →
(p_xGrow y5 (decide True) s7 0 9 0) ∧
(∀ b16 : Bool,
(∀ s17 : Sl,
((Ranged s17 [some .u16]) →
(∀ b18 : Bool,
(∀ s19 : Sl,
((Ranged s19 [some .u16]) →
(∀ x20 : Int,
((Rng .i64 x20) →
((q_xGrow y5 (decide True) s7 0 9 0 (decide (b16 = true)) s17 (decide (b18 = true)) s19 x20) →
(p_xRaise (decide (b8 = true)) s9 (decide (b10 = true)) s11 y5 (decide True) s7 9 0 0) ∧
(∀ b21 : Bool,
(∀ s22 : Sl,
((Ranged s22 [some .u16]) →
(∀ b23 : Bool,
(∀ s24 : Sl,
((Ranged s24 [some .u16]) →
(∀ x25 : Int,
((Rng .i64 x25) →
((q_xRaise (decide (b8 = true)) s9 (decide (b10 = true)) s11 y5 (decide True) s7 9 0 0 (decide (b21 = true)) s22 (decide (b23 = true)) s24 x25) →
(p_xLower (decide (b8 = true)) s9 (decide (b10 = true)) s11 y5 (decide True) s7 0 9 0) ∧
(∀ b26 : Bool,
(∀ s27 : Sl,
((Ranged s27 [some .u16]) →
(∀ b28 : Bool,
(∀ s29 : Sl,
((Ranged s29 [some .u16]) →
(∀ x30 : Int,
((Rng .i64 x30) →
((q_xLower (decide (b8 = true)) s9 (decide (b10 = true)) s11 y5 (decide True) s7 0 9 0 (decide (b26 = true)) s27 (decide (b28 = true)) s29 x30) →
(V_WWrong_15 s0 x1 x2 x3 y5 b6 s7 b8 s9 b10 s11 s12 x13 s14 x15 b16 s17 b18 s19 x20 b21 s22 b23 s24 x25 b26 s27 b28 s29 x30)))))))))))))))))))))))))))))))))))))))))))))) ∧
(¬ ((Int.tmod x3 3) = 0) →
((((Int.tmod x3 3) = 1) →
(p_kFrac 1 3) ∧
(∀ b8 : Bool,
(∀ s9 : Sl,
((Ranged s9 [some .u16]) →
(∀ b10 : Bool,
(∀ s11 : Sl,
((Ranged s11 [some .u16]) →
((q_kFrac 1 3 (decide (b8 = true)) s9 (decide (b10 = true)) s11) →
(p_xYears (imin x1 (-1)) 9) ∧
(∀ s12 : Sl,
((Ranged s12 [some .i64]) →
(∀ x13 : Int,
((Rng .i64 x13) →
((q_xYears (imin x1 (-1)) 9 s12 x13) →
(p_xYears 9 (imax x2 65537)) ∧
(∀ s14 : Sl,
((Ranged s14 [some .i64]) →
(∀ x15 : Int,
((Rng .i64 x15) →
((q_xYears 9 (imax x2 65537) s14 x15) →
(p_xGrow (bytes []) (decide (b6 = true)) s7 0 9 0) ∧
(∀ b16 : Bool,
(∀ s17 : Sl,
((Ranged s17 [some .u16]) →
(∀ b18 : Bool,
(∀ s19 : Sl,
((Ranged s19 [some .u16]) →
(∀ x20 : Int,
((Rng .i64 x20) →
((q_xGrow (bytes []) (decide (b6 = true)) s7 0 9 0 (decide (b16 = true)) s17 (decide (b18 = true)) s19 x20) →
(p_xRaise (decide (b8 = true)) s9 (decide (b10 = true)) s11 (bytes []) (decide (b6 = true)) s7 9 0 0) ∧
(∀ b21 : Bool,
(∀ s22 : Sl,
((Ranged s22 [some .u16]) →
(∀ b23 : Bool,
(∀ s24 : Sl,
((Ranged s24 [some .u16]) →
(∀ x25 : Int,
((Rng .i64 x25) →
((q_xRaise (decide (b8 = true)) s9 (decide (b10 = true)) s11 (bytes []) (decide (b6 = true)) s7 9 0 0 (decide (b21 = true)) s22 (decide (b23 = true)) s24 x25) →
(p_xLower (decide (b8 = true)) s9 (decide (b10 = true)) s11 (bytes []) (decide (b6 = true)) s7 0 9 0) ∧
(∀ b26 : Bool,
(∀ s27 : Sl,
((Ranged s27 [some .u16]) →
(∀ b28 : Bool,
(∀ s29 : Sl,
((Ranged s29 [some .u16]) →
(∀ x30 : Int,
((Rng .i64 x30) →
((q_xLower (decide (b8 = true)) s9 (decide (b10 = true)) s11 (bytes []) (decide (b6 = true)) s7 0 9 0 (decide (b26 = true)) s27 (decide (b28 = true)) s29 x30) →
(V_WWrong_15 s0 x1 x2 x3 y5 b6 s7 b8 s9 b10 s11 s12 x13 s14 x15 b16 s17 b18 s19 x20 b21 s22 b23 s24 x25 b26 s27 b28 s29 x30)))))))))))))))))))))))))))))))))))))))))))))) ∧
(¬ ((Int.tmod x3 3) = 1) →
((((Int.tmod x3 3) = 2) →
((((Sl.len (Sl.lit [])) + (Sl.len s7)) * 88) ≤ 140737488355328) ∧
(p_iRow 1899 0 1 2) ∧
(∀ x8 : Int,
((Rng .i64 x8) →
(∀ x9 : Int,
((Rng .i64 x9) →
(∀ x10 : Int,
((Rng .i64 x10) →
(∀ b11 : Bool,
(∀ s12 : Sl,
((Ranged s12 [some .u16]) →
(∀ b13 : Bool,
(∀ s14 : Sl,
((Ranged s14 [some .u16]) →
((q_iRow 1899 0 1 2 x8 x9 x10 (decide (b11 = true)) s12 (decide (b13 = true)) s14) →
(p_iRow 1898 0 1 2) ∧
(∀ x15 : Int,
((Rng .i64 x15) →
(∀ x16 : Int,
((Rng .i64 x16) →
(∀ x17 : Int,
((Rng .i64 x17) →
(∀ b18 : Bool,
(∀ s19 : Sl,
((Ranged s19 [some .u16]) →
(∀ b20 : Bool,
(∀ s21 : Sl,
((Ranged s21 [some .u16]) →
((q_iRow 1898 0 1 2 x15 x16 x17 (decide (b18 = true)) s19 (decide (b20 = true)) s21) →
((((Sl.len (Sl.app (Sl.lit []) s7)) + (Sl.len (Sl.lit [[(.int x8), (.int x9), (.int x10), (.bool (decide (b11 = true))), (Sl.d s12), (.bool (decide (b13 = true))), (Sl.d s14)], [(.int x15), (.int x16), (.int x17), (.bool (decide (b18 = true))), (Sl.d s19), (.bool (decide (b20 = true))), (Sl.d s21)]]))) * 88) ≤ 140737488355328) ∧
(p_kFrac 1 3) ∧
(∀ b22 : Bool,
(∀ s23 : Sl,
((Ranged s23 [some .u16]) →
(∀ b24 : Bool,
(∀ s25 : Sl,
((Ranged s25 [some .u16]) →
((q_kFrac 1 3 (decide (b22 = true)) s23 (decide (b24 = true)) s25) →
(p_xYears (imin x1 (-1)) 9) ∧
(∀ s26 : Sl,
((Ranged s26 [some .i64]) →
(∀ x27 : Int,
((Rng .i64 x27) →
((q_xYears (imin x1 (-1)) 9 s26 x27) →
(p_xYears 9 (imax x2 65537)) ∧
(∀ s28 : Sl,
((Ranged s28 [some .i64]) →
(∀ x29 : Int,
((Rng .i64 x29) →
((q_xYears 9 (imax x2 65537) s28 x29) →
(p_xGrow y5 (decide (b6 = true)) (Sl.app (Sl.app (Sl.lit []) s7) (Sl.lit [[(.int x8), (.int x9), (.int x10), (.bool (decide (b11 = true))), (Sl.d s12), (.bool (decide (b13 = true))), (Sl.d s14)], [(.int x15), (.int x16), (.int x17), (.bool (decide (b18 = true))), (Sl.d s19), (.bool (decide (b20 = true))), (Sl.d s21)]])) 0 9 0) ∧
(∀ b30 : Bool,
(∀ s31 : Sl,
((Ranged s31 [some .u16]) →
(∀ b32 : Bool,
(∀ s33 : Sl,
((Ranged s33 [some .u16]) →
(∀ x34 : Int,
((Rng .i64 x34) →
((q_xGrow y5 (decide (b6 = true)) (Sl.app (Sl.app (Sl.lit []) s7) (Sl.lit [[(.int x8), (.int x9), (.int x10), (.bool (decide (b11 = true))), (Sl.d s12), (.bool (decide (b13 = true))), (Sl.d s14)], [(.int x15), (.int x16), (.int x17), (.bool (decide (b18 = true))), (Sl.d s19), (.bool (decide (b20 = true))), (Sl.d s21)]])) 0 9 0 (decide (b30 = true)) s31 (decide (b32 = true)) s33 x34) →
(p_xRaise (decide (b22 = true)) s23 (decide (b24 = true)) s25 y5 (decide (b6 = true)) (Sl.app (Sl.app (Sl.lit []) s7) (Sl.lit [[(.int x8), (.int x9), (.int x10), (.bool (decide (b11 = true))), (Sl.d s12), (.bool (decide (b13 = true))), (Sl.d s14)], [(.int x15), (.int x16), (.int x17), (.bool (decide (b18 = true))), (Sl.d s19), (.bool (decide (b20 = true))), (Sl.d s21)]])) 9 0 0) ∧
(∀ b35 : Bool,
(∀ s36 : Sl,
((Ranged s36 [some .u16]) →
(∀ b37 : Bool,
(∀ s38 : Sl,
((Ranged s38 [some .u16]) →
(∀ x39 : Int,
((Rng .i64 x39) →
((q_xRaise (decide (b22 = true)) s23 (decide (b24 = true)) s25 y5 (decide (b6 = true)) (Sl.app (Sl.app (Sl.lit []) s7) (Sl.lit [[(.int x8), (.int x9), (.int x10), (.bool (decide (b11 = true))), (Sl.d s12), (.bool (decide (b13 = true))), (Sl.d s14)], [(.int x15), (.int x16), (.int x17), (.bool (decide (b18 = true))), (Sl.d s19), (.bool (decide (b20 = true))), (Sl.d s21)]])) 9 0 0 (decide (b35 = true)) s36 (decide (b37 = true)) s38 x39) →
(p_xLower (decide (b22 = true)) s23 (decide (b24 = true)) s25 y5 (decide (b6 = true)) (Sl.app (Sl.app (Sl.lit []) s7) (Sl.lit [[(.int x8), (.int x9), (.int x10), (.bool (decide (b11 = true))), (Sl.d s12), (.bool (decide (b13 = true))), (Sl.d s14)], [(.int x15), (.int x16), (.int x17), (.bool (decide (b18 = true))), (Sl.d s19), (.bool (decide (b20 = true))), (Sl.d s21)]])) 0 9 0) ∧
(∀ b40 : Bool,
(∀ s41 : Sl,
((Ranged s41 [some .u16]) →
(∀ b42 : Bool,
(∀ s43 : Sl,
((Ranged s43 [some .u16]) →
(∀ x44 : Int,
((Rng .i64 x44) →
((q_xLower (decide (b22 = true)) s23 (decide (b24 = true)) s25 y5 (decide (b6 = true)) (Sl.app (Sl.app (Sl.lit []) s7) (Sl.lit [[(.int x8), (.int x9), (.int x10), (.bool (decide (b11 = true))), (Sl.d s12), (.bool (decide (b13 = true))), (Sl.d s14)], [(.int x15), (.int x16), (.int x17), (.bool (decide (b18 = true))), (Sl.d s19), (.bool (decide (b20 = true))), (Sl.d s21)]])) 0 9 0 (decide (b40 = true)) s41 (decide (b42 = true)) s43 x44) →
(p_xGrow y5 (decide (b6 = true)) s7 (imin x1 (-1)) 9 0) ∧
(∀ b45 : Bool,
(∀ s46 : Sl,
((Ranged s46 [some .u16]) →
(∀ b47 : Bool,
(∀ s48 : Sl,
((Ranged s48 [some .u16]) →
(∀ x49 : Int,
((Rng .i64 x49) →
((q_xGrow y5 (decide (b6 = true)) s7 (imin x1 (-1)) 9 0 (decide (b45 = true)) s46 (decide (b47 = true)) s48 x49) →
(p_xRaise (decide (b22 = true)) s23 (decide (b24 = true)) s25 y5 (decide (b6 = true)) s7 9 (imax x2 65537) 0) ∧
(∀ b50 : Bool,
(∀ s51 : Sl,
((Ranged s51 [some .u16]) →
(∀ b52 : Bool,
(∀ s53 : Sl,
((Ranged s53 [some .u16]) →
(∀ x54 : Int,
((Rng .i64 x54) →
((q_xRaise (decide (b22 = true)) s23 (decide (b24 = true)) s25 y5 (decide (b6 = true)) s7 9 (imax x2 65537) 0 (decide (b50 = true)) s51 (decide (b52 = true)) s53 x54) →
(p_xLower (decide (b22 = true)) s23 (decide (b24 = true)) s25 y5 (decide (b6 = true)) s7 (imax x2 65537) 9 0) ∧
(∀ b55 : Bool,
(∀ s56 : Sl,
((Ranged s56 [some .u16]) →
(∀ b57 : Bool,
(∀ s58 : Sl,
((Ranged s58 [some .u16]) →
(∀ x59 : Int,
((Rng .i64 x59) →
((q_xLower (decide (b22 = true)) s23 (decide (b24 = true)) s25 y5 (decide (b6 = true)) s7 (imax x2 65537) 9 0 (decide (b55 = true)) s56 (decide (b57 = true)) s58 x59) →
(p_xRaise (decide False) Sl.nil (decide False) Sl.nil y5 (decide (b6 = true)) s7 9 9 0) ∧
(∀ b60 : Bool,
(∀ s61 : Sl,
((Ranged s61 [some .u16]) →
(∀ b62 : Bool,
(∀ s63 : Sl,
((Ranged s63 [some .u16]) →
(∀ x64 : Int,
((Rng .i64 x64) →
((q_xRaise (decide False) Sl.nil (decide False) Sl.nil y5 (decide (b6 = true)) s7 9 9 0 (decide (b60 = true)) s61 (decide (b62 = true)) s63 x64) →
(p_xLower (decide (b22 = true)) s23 (decide False) Sl.nil y5 (decide (b6 = true)) s7 9 9 0) ∧
(∀ b65 : Bool,
(∀ s66 : Sl,
((Ranged s66 [some .u16]) →
(∀ b67 : Bool,
(∀ s68 : Sl,
((Ranged s68 [some .u16]) →
(∀ x69 : Int,
((Rng .i64 x69) →
((q_xLower (decide (b22 = true)) s23 (decide False) Sl.nil y5 (decide (b6 = true)) s7 9 9 0 (decide (b65 = true)) s66 (decide (b67 = true)) s68 x69) →
((Small (Sl.lit [[(.int x27)], [(.int x29)], [(.int x34)], [(.int x39)], [(.int x44)], [(.int x49)], [(.int x54)], [(.int x59)], [(.int x64)], [(.int x69)]])) →
(∃ (J70 : Int → Prop) (M70 : Int → Nat), J70 0 ∧
(∀ x71 : Int,
((Rng .i64 x71) →
(J70 x71 →
(((x71 < (Sl.len (Sl.lit [[(.int x27)], [(.int x29)], [(.int x34)], [(.int x39)], [(.int x44)], [(.int x49)], [(.int x54)], [(.int x59)], [(.int x64)], [(.int x69)]]))) →
((0 : Int) ≤ x71) ∧
(x71 < (Sl.len (Sl.lit [[(.int x27)], [(.int x29)], [(.int x34)], [(.int x39)], [(.int x44)], [(.int x49)], [(.int x54)], [(.int x59)], [(.int x64)], [(.int x69)]]))) ∧
((Rng .i64 (Sl.int (Sl.lit [[(.int x27)], [(.int x29)], [(.int x34)], [(.int x39)], [(.int x44)], [(.int x49)], [(.int x54)], [(.int x59)], [(.int x64)], [(.int x69)]]) x71 0)) →
((((Sl.int (Sl.lit [[(.int x27)], [(.int x29)], [(.int x34)], [(.int x39)], [(.int x44)], [(.int x49)], [(.int x54)], [(.int x59)], [(.int x64)], [(.int x69)]]) x71 0) ≠ 2) →
(q_WWrong s0 x1 x2 x3 (decide False)) ∧ True) ∧
(¬ ((Sl.int (Sl.lit [[(.int x27)], [(.int x29)], [(.int x34)], [(.int x39)], [(.int x44)], [(.int x49)], [(.int x54)], [(.int x59)], [(.int x64)], [(.int x69)]]) x71 0) ≠ 2) →
(Rng .i64 (x71 + 1)) ∧
(J70 (x71 + 1) ∧ M70 (x71 + 1) < M70 x71))))) ∧
(¬ (x71 < (Sl.len (Sl.lit [[(.int x27)], [(.int x29)], [(.int x34)], [(.int x39)], [(.int x44)], [(.int x49)], [(.int x54)], [(.int x59)], [(.int x64)], [(.int x69)]]))) →
((((Small s26) →
((((Small s28) →
(V_WWrong_16 s0 x1 x2 x3 s26 s28 b30 s31 b32 s33 b35 s36 b37 s38 b40 s41 b42 s43))) ∧
((p_kLimbs (decide (b30 = true)) s31 (decide (b32 = true)) s33) ∧
(∀ x72 : Int,
((Rng .i64 x72) →
((q_kLimbs (decide (b30 = true)) s31 (decide (b32 = true)) s33 x72) →
(V_WWrong_18 s0 x1 x2 x3 s26 s28 b35 s36 b37 s38 b40 s41 b42 s43 x72)))))))) ∧
(((((Small s28) →
((((Small s26) →
(V_WWrong_16 s0 x1 x2 x3 s26 s28 b30 s31 b32 s33 b35 s36 b37 s38 b40 s41 b42 s43))) ∧
((p_kLimbs (decide (b30 = true)) s31 (decide (b32 = true)) s33) ∧
(∀ x72 : Int,
((Rng .i64 x72) →
((q_kLimbs (decide (b30 = true)) s31 (decide (b32 = true)) s33 x72) →
(V_WWrong_23 s0 x1 x2 x3 s26 s28 b35 s36 b37 s38 b40 s41 b42 s43 x72)))))))) ∧
((p_kLimbs (decide (b30 = true)) s31 (decide (b32 = true)) s33) ∧
(∀ x72 : Int,
((Rng .i64 x72) →
((q_kLimbs (decide (b30 = true)) s31 (decide (b32 = true)) s33 x72) →
((((Small s26) →
(V_WWrong_18 s0 x1 x2 x3 s26 s28 b35 s36 b37 s38 b40 s41 b42 s43 x72))) ∧
(((((Small s28) →
(V_WWrong_23 s0 x1 x2 x3 s26 s28 b35 s36 b37 s38 b40 s41 b42 s43 x72))) ∧
((p_kLimbs (decide (b35 = true)) s36 (decide (b37 = true)) s38) ∧
(∀ x73 : Int,
((Rng .i64 x73) →
((q_kLimbs (decide (b35 = true)) s36 (decide (b37 = true)) s38 x73) →
((((Small s26) →
(V_WWrong_24 s0 x1 x2 x3 s26 s28 b40 s41 b42 s43 x72 x73))) ∧
(((((Small s28) →
(V_WWrong_27 s0 x1 x2 x3 s26 s28 b40 s41 b42 s43 x72 x73))) ∧
((p_kLimbs (decide (b40 = true)) s41 (decide (b42 = true)) s43) ∧
(∀ x74 : Int,
((Rng .i64 x74) →
((q_kLimbs (decide (b40 = true)) s41 (decide (b42 = true)) s43 x74) →
((((Small s26) →
(V_WWrong_29 s0 x1 x2 x3 s26 s28 x72 x73 x74))) ∧
(((Small s28) →
(V_WWrong_30 s0 x1 x2 x3 s26 s28 x72 x73 x74)))))))))))))))))))))))))))))))))))))))))))))))))))))))))))))))))))))))))))))))))))))))))))))))))))))))))))))))))))))))))))))))))))))))))))))))))))) ∧
(¬ ((Int.tmod x3 3) = 2) →
(p_kFrac 1 3) ∧
(∀ b8 : Bool,
(∀ s9 : Sl,
((Ranged s9 [some .u16]) →
(∀ b10 : Bool,
(∀ s11 : Sl,
((Ranged s11 [some .u16]) →
((q_kFrac 1 3 (decide (b8 = true)) s9 (decide (b10 = true)) s11) →
(p_xYears (imin x1 (-1)) 9) ∧
(∀ s12 : Sl,
((Ranged s12 [some .i64]) →
(∀ x13 : Int,
((Rng .i64 x13) →
((q_xYears (imin x1 (-1)) 9 s12 x13) →
(p_xYears 9 (imax x2 65537)) ∧
(∀ s14 : Sl,
((Ranged s14 [some .i64]) →
(∀ x15 : Int,
((Rng .i64 x15) →
((q_xYears 9 (imax x2 65537) s14 x15) →
(p_xGrow y5 (decide (b6 = true)) s7 0 9 0) ∧
(∀ b16 : Bool,
(∀ s17 : Sl,
((Ranged s17 [some .u16]) →
(∀ b18 : Bool,
(∀ s19 : Sl,
((Ranged s19 [some .u16]) →
(∀ x20 : Int,
((Rng .i64 x20) →
((q_xGrow y5 (decide (b6 = true)) s7 0 9 0 (decide (b16 = true)) s17 (decide (b18 = true)) s19 x20) →
(p_xRaise (decide (b8 = true)) s9 (decide (b10 = true)) s11 y5 (decide (b6 = true)) s7 9 0 0) ∧
(∀ b21 : Bool,
(∀ s22 : Sl,
((Ranged s22 [some .u16]) →
(∀ b23 : Bool,
(∀ s24 : Sl,
((Ranged s24 [some .u16]) →
(∀ x25 : Int,
((Rng .i64 x25) →
((q_xRaise (decide (b8 = true)) s9 (decide (b10 = true)) s11 y5 (decide (b6 = true)) s7 9 0 0 (decide (b21 = true)) s22 (decide (b23 = true)) s24 x25) →
(p_xLower (decide (b8 = true)) s9 (decide (b10 = true)) s11 y5 (decide (b6 = true)) s7 0 9 0) ∧
(∀ b26 : Bool,
(∀ s27 : Sl,
((Ranged s27 [some .u16]) →
(∀ b28 : Bool,
(∀ s29 : Sl,
((Ranged s29 [some .u16]) →
(∀ x30 : Int,
((Rng .i64 x30) →
((q_xLower (decide (b8 = true)) s9 (decide (b10 = true)) s11 y5 (decide (b6 = true)) s7 0 9 0 (decide (b26 = true)) s27 (decide (b28 = true)) s29 x30) →
(V_WWrong_15 s0 x1 x2 x3 y5 b6 s7 b8 s9 b10 s11 s12 x13 s14 x15 b16 s17 b18 s19 x20 b21 s22 b23 s24 x25 b26 s27 b28 s29 x30)))))))))))))))))))))))))))))))))))))))))))))))))))))))))))))))))))))
end Go.Sx.N
