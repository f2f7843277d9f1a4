/-
  The conditions of the functions. Conditions: none; printed by a program of our own.
-/
import Derived.Test.YtjljnieafhdkgaaGreatDoorIdxSpec
set_option maxRecDepth 20000
namespace Go.Sx.N
def V_kSameInts : Prop :=
(∀ s0 : Sl,
((Ranged s0 [some .i64]) →
(∀ s1 : Sl,
((Ranged s1 [some .i64]) →
((p_kSameInts s0 s1) →
((Small s0) →
((Small s1) →
((((Sl.len s0) ≠ (Sl.len s1)) →
(q_kSameInts s0 s1 (decide False)) ∧ True) ∧
(¬ ((Sl.len s0) ≠ (Sl.len s1)) →
(∃ (J2 : Int → Prop) (M2 : Int → Nat), J2 0 ∧
(∀ x3 : Int,
((Rng .i64 x3) →
(J2 x3 →
((Small s0) →
(((x3 < (Sl.len s0)) →
((0 : Int) ≤ x3) ∧
(x3 < (Sl.len s0)) ∧
((Rng .i64 (Sl.int s0 x3 0)) →
((0 : Int) ≤ x3) ∧
(x3 < (Sl.len s1)) ∧
((Rng .i64 (Sl.int s1 x3 0)) →
((((Sl.int s0 x3 0) ≠ (Sl.int s1 x3 0)) →
(q_kSameInts s0 s1 (decide False)) ∧ True) ∧
(¬ ((Sl.int s0 x3 0) ≠ (Sl.int s1 x3 0)) →
(Rng .i64 (x3 + 1)) ∧
(J2 (x3 + 1) ∧ M2 (x3 + 1) < M2 x3)))))) ∧
(¬ (x3 < (Sl.len s0)) →
(q_kSameInts s0 s1 (decide True)) ∧ True))))))))))))))))
def V_rLeap3 : Prop :=
(∀ x0 : Int,
((Rng .i64 x0) →
((p_rLeap3 x0) →
((400 : Int) ≠ 0) ∧
(Rng .i64 (Int.tmod x0 400)) ∧
((((Int.tmod x0 400) = 0) →
(q_rLeap3 x0 (decide True)) ∧ True) ∧
(¬ ((Int.tmod x0 400) = 0) →
((4 : Int) ≠ 0) ∧
(Rng .i64 (Int.tmod x0 4)) ∧
((((Int.tmod x0 4) = 0) →
((100 : Int) ≠ 0) ∧
(Rng .i64 (Int.tmod x0 100)) ∧
(q_rLeap3 x0 (decide ((Int.tmod x0 100) ≠ 0))) ∧ True) ∧
(¬ ((Int.tmod x0 4) = 0) →
(q_rLeap3 x0 (decide False)) ∧ True)))))))
def V_rLen3 : Prop :=
(∀ x0 : Int,
((Rng .i64 x0) →
(∀ x1 : Int,
((Rng .i64 x1) →
((p_rLen3 x0 x1) →
(((x1 = 1) →
(q_rLen3 x0 x1 31) ∧ True) ∧
(¬ (x1 = 1) →
(((x1 = 3) →
(q_rLen3 x0 x1 31) ∧ True) ∧
(¬ (x1 = 3) →
(((x1 = 5) →
(q_rLen3 x0 x1 31) ∧ True) ∧
(¬ (x1 = 5) →
(((x1 = 7) →
(q_rLen3 x0 x1 31) ∧ True) ∧
(¬ (x1 = 7) →
(((x1 = 8) →
(q_rLen3 x0 x1 31) ∧ True) ∧
(¬ (x1 = 8) →
(((x1 = 10) →
(q_rLen3 x0 x1 31) ∧ True) ∧
(¬ (x1 = 10) →
(((x1 = 12) →
(q_rLen3 x0 x1 31) ∧ True) ∧
(¬ (x1 = 12) →
(((x1 = 4) →
(q_rLen3 x0 x1 30) ∧ True) ∧
(¬ (x1 = 4) →
(((x1 = 6) →
(q_rLen3 x0 x1 30) ∧ True) ∧
(¬ (x1 = 6) →
(((x1 = 9) →
(q_rLen3 x0 x1 30) ∧ True) ∧
(¬ (x1 = 9) →
(((x1 = 11) →
(q_rLen3 x0 x1 30) ∧ True) ∧
(¬ (x1 = 11) →
(((x1 = 2) →
(p_rLeap3 x0) ∧
(∀ b2 : Bool,
((q_rLeap3 x0 (decide (b2 = true))) →
(((b2 = true) →
(q_rLen3 x0 x1 29) ∧ True) ∧
(¬ (b2 = true) →
(q_rLen3 x0 x1 28) ∧ True))))) ∧
(¬ (x1 = 2) →
(q_rLen3 x0 x1 0) ∧ True)))))))))))))))))))))))))))))
def V_rDay : Prop :=
(∀ x0 : Int,
((Rng .i64 x0) →
(∀ x1 : Int,
((Rng .i64 x1) →
(∀ x2 : Int,
((Rng .i64 x2) →
((p_rDay x0 x1 x2) →
(((x0 < 1900) →
(q_rDay x0 x1 x2 0 2) ∧ True) ∧
(¬ (x0 < 1900) →
(((x0 > 2079) →
(q_rDay x0 x1 x2 0 2) ∧ True) ∧
(¬ (x0 > 2079) →
(((x1 < 1) →
(q_rDay x0 x1 x2 0 2) ∧ True) ∧
(¬ (x1 < 1) →
(((x1 > 12) →
(q_rDay x0 x1 x2 0 2) ∧ True) ∧
(¬ (x1 > 12) →
(((x2 < 1) →
(q_rDay x0 x1 x2 0 2) ∧ True) ∧
(¬ (x2 < 1) →
(p_rLen3 x0 x1) ∧
(∀ x3 : Int,
((Rng .i64 x3) →
((q_rLen3 x0 x1 x3) →
(((x2 > x3) →
(q_rDay x0 x1 x2 0 2) ∧ True) ∧
(¬ (x2 > x3) →
(Rng .i64 (x2 - 1)) ∧
(∃ (J4 : Int → Int → Prop) (M4 : Int → Int → Nat), J4 (x2 - 1) 1900 ∧
(∀ x5 : Int,
((Rng .i64 x5) →
(∀ x6 : Int,
((Rng .i64 x6) →
(J4 x5 x6 →
(((x6 < x0) →
(Rng .i64 (x5 + 365)) ∧
(p_rLeap3 x6) ∧
(∀ b7 : Bool,
((q_rLeap3 x6 (decide (b7 = true))) →
(((b7 = true) →
(Rng .i64 ((x5 + 365) + 1)) ∧
(Rng .i64 (x6 + 1)) ∧
(J4 ((x5 + 365) + 1) (x6 + 1) ∧ M4 ((x5 + 365) + 1) (x6 + 1) < M4 x5 x6)) ∧
(¬ (b7 = true) →
(Rng .i64 (x6 + 1)) ∧
(J4 (x5 + 365) (x6 + 1) ∧ M4 (x5 + 365) (x6 + 1) < M4 x5 x6)))))) ∧
(¬ (x6 < x0) →
(∃ (J7 : Int → Int → Prop) (M7 : Int → Int → Nat), J7 x5 1 ∧
(∀ x8 : Int,
((Rng .i64 x8) →
(∀ x9 : Int,
((Rng .i64 x9) →
(J7 x8 x9 →
(((x9 < x1) →
(p_rLen3 x0 x9) ∧
(∀ x10 : Int,
((Rng .i64 x10) →
((q_rLen3 x0 x9 x10) →
(Rng .i64 (x8 + x10)) ∧
(Rng .i64 (x9 + 1)) ∧
(J7 (x8 + x10) (x9 + 1) ∧ M7 (x8 + x10) (x9 + 1) < M7 x8 x9))))) ∧
(¬ (x9 < x1) →
(((x8 ≥ 65536) →
(q_rDay x0 x1 x2 0 2) ∧ True) ∧
(¬ (x8 ≥ 65536) →
(q_rDay x0 x1 x2 x8 0) ∧ True))))))))))))))))))))))))))))))))))))))))
def V_rYears : Prop :=
(∀ x0 : Int,
((Rng .i64 x0) →
(∀ x1 : Int,
((Rng .i64 x1) →
((p_rYears x0 x1) →
(((x0 < 0) →
(q_rYears x0 x1 Sl.nil 2) ∧ True) ∧
(¬ (x0 < 0) →
(((x0 > 65536) →
(q_rYears x0 x1 Sl.nil 2) ∧ True) ∧
(¬ (x0 > 65536) →
(((x1 < 0) →
(q_rYears x0 x1 Sl.nil 2) ∧ True) ∧
(¬ (x1 < 0) →
(((x1 > 65536) →
(q_rYears x0 x1 Sl.nil 2) ∧ True) ∧
(¬ (x1 > 65536) →
(∃ (J2 : Sl → Int → Prop) (M2 : Sl → Int → Nat), J2 Sl.nil 1900 ∧
(∀ s3 : Sl,
((Ranged s3 [some .i64]) →
(∀ x4 : Int,
((Rng .i64 x4) →
(J2 s3 x4 →
(((x4 ≤ 2079) →
(p_rDay x4 1 1) ∧
(∀ x5 : Int,
((Rng .i64 x5) →
(∀ x6 : Int,
((Rng .i64 x6) →
((q_rDay x4 1 1 x5 x6) →
(((x5 ≥ x0) →
(((x5 < x1) →
((((Sl.len s3) + (Sl.len (Sl.lit [[(.int x4)]]))) * 8) ≤ 140737488355328) ∧
(Rng .i64 (x4 + 1)) ∧
(J2 (Sl.app s3 (Sl.lit [[(.int x4)]])) (x4 + 1) ∧ M2 (Sl.app s3 (Sl.lit [[(.int x4)]])) (x4 + 1) < M2 s3 x4)) ∧
(¬ (x5 < x1) →
(Rng .i64 (x4 + 1)) ∧
(J2 s3 (x4 + 1) ∧ M2 s3 (x4 + 1) < M2 s3 x4)))) ∧
(¬ (x5 ≥ x0) →
(Rng .i64 (x4 + 1)) ∧
(J2 s3 (x4 + 1) ∧ M2 s3 (x4 + 1) < M2 s3 x4))))))))) ∧
(¬ (x4 ≤ 2079) →
(q_rYears x0 x1 s3 0) ∧ True)))))))))))))))))))))
def V_iRow : Prop :=
(∀ x0 : Int,
((Rng .i64 x0) →
(∀ x1 : Int,
((Rng .i64 x1) →
(∀ x2 : Int,
((Rng .i64 x2) →
(∀ x3 : Int,
((Rng .i64 x3) →
((p_iRow x0 x1 x2 x3) →
(p_kFrac x2 x3) ∧
(∀ b4 : Bool,
(∀ s5 : Sl,
((Ranged s5 [some .u16]) →
(∀ b6 : Bool,
(∀ s7 : Sl,
((Ranged s7 [some .u16]) →
((q_kFrac x2 x3 (decide (b4 = true)) s5 (decide (b6 = true)) s7) →
(q_iRow x0 x1 x2 x3 x0 0 x1 (decide (b4 = true)) s5 (decide (b6 = true)) s7) ∧ True))))))))))))))))
def V_cpi : Prop :=
((p_cpi ) →
(p_iRow 1900 0 1 50) ∧
(∀ x0 : Int,
((Rng .i64 x0) →
(∀ x1 : Int,
((Rng .i64 x1) →
(∀ x2 : Int,
((Rng .i64 x2) →
(∀ b3 : Bool,
(∀ s4 : Sl,
((Ranged s4 [some .u16]) →
(∀ b5 : Bool,
(∀ s6 : Sl,
((Ranged s6 [some .u16]) →
((q_iRow 1900 0 1 50 x0 x1 x2 (decide (b3 = true)) s4 (decide (b5 = true)) s6) →
(p_iRow 1902 0 1 10) ∧
(∀ x7 : Int,
((Rng .i64 x7) →
(∀ x8 : Int,
((Rng .i64 x8) →
(∀ x9 : Int,
((Rng .i64 x9) →
(∀ b10 : Bool,
(∀ s11 : Sl,
((Ranged s11 [some .u16]) →
(∀ b12 : Bool,
(∀ s13 : Sl,
((Ranged s13 [some .u16]) →
((q_iRow 1902 0 1 10 x7 x8 x9 (decide (b10 = true)) s11 (decide (b12 = true)) s13) →
(p_iRow 1902 800 1 20) ∧
(∀ x14 : Int,
((Rng .i64 x14) →
(∀ x15 : Int,
((Rng .i64 x15) →
(∀ x16 : Int,
((Rng .i64 x16) →
(∀ b17 : Bool,
(∀ s18 : Sl,
((Ranged s18 [some .u16]) →
(∀ b19 : Bool,
(∀ s20 : Sl,
((Ranged s20 [some .u16]) →
((q_iRow 1902 800 1 20 x14 x15 x16 (decide (b17 = true)) s18 (decide (b19 = true)) s20) →
(q_cpi  (bytes [99, 112, 105]) (decide False) (Sl.lit [[(.int x0), (.int x1), (.int x2), (.bool (decide (b3 = true))), (Sl.d s4), (.bool (decide (b5 = true))), (Sl.d s6)], [(.int x7), (.int x8), (.int x9), (.bool (decide (b10 = true))), (Sl.d s11), (.bool (decide (b12 = true))), (Sl.d s13)], [(.int x14), (.int x15), (.int x16), (.bool (decide (b17 = true))), (Sl.d s18), (.bool (decide (b19 = true))), (Sl.d s20)]])) ∧ True))))))))))))))))))))))))))))))))))))))))
def V_iOne : Prop :=
((p_iOne ) →
(p_fFromInt 1) ∧
(∀ b0 : Bool,
(∀ s1 : Sl,
((Ranged s1 [some .u16]) →
(∀ b2 : Bool,
(∀ s3 : Sl,
((Ranged s3 [some .u16]) →
((q_fFromInt 1 (decide (b0 = true)) s1 (decide (b2 = true)) s3) →
(q_iOne  (decide (b0 = true)) s1 (decide (b2 = true)) s3) ∧ True))))))))
def V_xAwake : Prop :=
((p_xAwake ) →
(p_xYears 0 366) ∧
(∀ s0 : Sl,
((Ranged s0 [some .i64]) →
(∀ x1 : Int,
((Rng .i64 x1) →
((q_xYears 0 366 s0 x1) →
(p_xYears 1 365) ∧
(∀ s2 : Sl,
((Ranged s2 [some .i64]) →
(∀ x3 : Int,
((Rng .i64 x3) →
((q_xYears 1 365 s2 x3) →
(p_cpi ) ∧
(∀ y4 : ByteArray,
(∀ b5 : Bool,
(∀ s6 : Sl,
((Ranged s6 [some .i64, some .i64, some .i64, none, none, none, none]) →
((q_cpi  y4 (decide (b5 = true)) s6) →
(p_xGrow y4 (decide (b5 = true)) s6 0 1096 799) ∧
(∀ b7 : Bool,
(∀ s8 : Sl,
((Ranged s8 [some .u16]) →
(∀ b9 : Bool,
(∀ s10 : Sl,
((Ranged s10 [some .u16]) →
(∀ x11 : Int,
((Rng .i64 x11) →
((q_xGrow y4 (decide (b5 = true)) s6 0 1096 799 (decide (b7 = true)) s8 (decide (b9 = true)) s10 x11) →
(p_cpi ) ∧
(∀ y12 : ByteArray,
(∀ b13 : Bool,
(∀ s14 : Sl,
((Ranged s14 [some .i64, some .i64, some .i64, none, none, none, none]) →
((q_cpi  y12 (decide (b13 = true)) s14) →
(p_xGrow y12 (decide (b13 = true)) s14 1 731 800) ∧
(∀ b15 : Bool,
(∀ s16 : Sl,
((Ranged s16 [some .u16]) →
(∀ b17 : Bool,
(∀ s18 : Sl,
((Ranged s18 [some .u16]) →
(∀ x19 : Int,
((Rng .i64 x19) →
((q_xGrow y12 (decide (b13 = true)) s14 1 731 800 (decide (b15 = true)) s16 (decide (b17 = true)) s18 x19) →
(p_kFrac 100 1) ∧
(∀ b20 : Bool,
(∀ s21 : Sl,
((Ranged s21 [some .u16]) →
(∀ b22 : Bool,
(∀ s23 : Sl,
((Ranged s23 [some .u16]) →
((q_kFrac 100 1 (decide (b20 = true)) s21 (decide (b22 = true)) s23) →
(p_cpi ) ∧
(∀ y24 : ByteArray,
(∀ b25 : Bool,
(∀ s26 : Sl,
((Ranged s26 [some .i64, some .i64, some .i64, none, none, none, none]) →
((q_cpi  y24 (decide (b25 = true)) s26) →
(p_xRaise (decide (b20 = true)) s21 (decide (b22 = true)) s23 y24 (decide (b25 = true)) s26 1 731 800) ∧
(∀ b27 : Bool,
(∀ s28 : Sl,
((Ranged s28 [some .u16]) →
(∀ b29 : Bool,
(∀ s30 : Sl,
((Ranged s30 [some .u16]) →
(∀ x31 : Int,
((Rng .i64 x31) →
((q_xRaise (decide (b20 = true)) s21 (decide (b22 = true)) s23 y24 (decide (b25 = true)) s26 1 731 800 (decide (b27 = true)) s28 (decide (b29 = true)) s30 x31) →
(p_cpi ) ∧
(∀ y32 : ByteArray,
(∀ b33 : Bool,
(∀ s34 : Sl,
((Ranged s34 [some .i64, some .i64, some .i64, none, none, none, none]) →
((q_cpi  y32 (decide (b33 = true)) s34) →
(p_xGrow y32 (decide (b33 = true)) s34 9 9 0) ∧
(∀ b35 : Bool,
(∀ s36 : Sl,
((Ranged s36 [some .u16]) →
(∀ b37 : Bool,
(∀ s38 : Sl,
((Ranged s38 [some .u16]) →
(∀ x39 : Int,
((Rng .i64 x39) →
((q_xGrow y32 (decide (b33 = true)) s34 9 9 0 (decide (b35 = true)) s36 (decide (b37 = true)) s38 x39) →
(p_iRow 1901 0 1 50) ∧
(∀ x40 : Int,
((Rng .i64 x40) →
(∀ x41 : Int,
((Rng .i64 x41) →
(∀ x42 : Int,
((Rng .i64 x42) →
(∀ b43 : Bool,
(∀ s44 : Sl,
((Ranged s44 [some .u16]) →
(∀ b45 : Bool,
(∀ s46 : Sl,
((Ranged s46 [some .u16]) →
((q_iRow 1901 0 1 50 x40 x41 x42 (decide (b43 = true)) s44 (decide (b45 = true)) s46) →
(p_xGrow (bytes [108, 97, 116, 101]) (decide False) (Sl.lit [[(.int x40), (.int x41), (.int x42), (.bool (decide (b43 = true))), (Sl.d s44), (.bool (decide (b45 = true))), (Sl.d s46)]]) 0 9 0) ∧
(∀ b47 : Bool,
(∀ s48 : Sl,
((Ranged s48 [some .u16]) →
(∀ b49 : Bool,
(∀ s50 : Sl,
((Ranged s50 [some .u16]) →
(∀ x51 : Int,
((Rng .i64 x51) →
((q_xGrow (bytes [108, 97, 116, 101]) (decide False) (Sl.lit [[(.int x40), (.int x41), (.int x42), (.bool (decide (b43 = true))), (Sl.d s44), (.bool (decide (b45 = true))), (Sl.d s46)]]) 0 9 0 (decide (b47 = true)) s48 (decide (b49 = true)) s50 x51) →
(Rng .i64 (x1 + x3)) ∧
(Rng .i64 ((x1 + x3) + x11)) ∧
(Rng .i64 (((x1 + x3) + x11) + x19)) ∧
(Rng .i64 ((((x1 + x3) + x11) + x19) + x31)) ∧
(Rng .i64 (((((x1 + x3) + x11) + x19) + x31) + x39)) ∧
((((((((x1 + x3) + x11) + x19) + x31) + x39) = 0) →
(((x51 = 6) →
(p_kSameInts s0 (Sl.lit [[(.int 1900)], [(.int 1901)]])) ∧
(∀ b52 : Bool,
((q_kSameInts s0 (Sl.lit [[(.int 1900)], [(.int 1901)]]) (decide (b52 = true))) →
(((b52 = true) →
((Small s2) →
((((Sl.len s2) = 0) →
(p_kFrac 314721 250000) ∧
(∀ b53 : Bool,
(∀ s54 : Sl,
((Ranged s54 [some .u16]) →
(∀ b55 : Bool,
(∀ s56 : Sl,
((Ranged s56 [some .u16]) →
((q_kFrac 314721 250000 (decide (b53 = true)) s54 (decide (b55 = true)) s56) →
(p_kSameFrac (decide (b7 = true)) s8 (decide (b9 = true)) s10 (decide (b53 = true)) s54 (decide (b55 = true)) s56) ∧
(∀ b57 : Bool,
((q_kSameFrac (decide (b7 = true)) s8 (decide (b9 = true)) s10 (decide (b53 = true)) s54 (decide (b55 = true)) s56 (decide (b57 = true))) →
(((b57 = true) →
(p_kFrac 1071 1000) ∧
(∀ b58 : Bool,
(∀ s59 : Sl,
((Ranged s59 [some .u16]) →
(∀ b60 : Bool,
(∀ s61 : Sl,
((Ranged s61 [some .u16]) →
((q_kFrac 1071 1000 (decide (b58 = true)) s59 (decide (b60 = true)) s61) →
(p_kSameFrac (decide (b15 = true)) s16 (decide (b17 = true)) s18 (decide (b58 = true)) s59 (decide (b60 = true)) s61) ∧
(∀ b62 : Bool,
((q_kSameFrac (decide (b15 = true)) s16 (decide (b17 = true)) s18 (decide (b58 = true)) s59 (decide (b60 = true)) s61 (decide (b62 = true))) →
(((b62 = true) →
(p_kFrac 1071 10) ∧
(∀ b63 : Bool,
(∀ s64 : Sl,
((Ranged s64 [some .u16]) →
(∀ b65 : Bool,
(∀ s66 : Sl,
((Ranged s66 [some .u16]) →
((q_kFrac 1071 10 (decide (b63 = true)) s64 (decide (b65 = true)) s66) →
(p_kSameFrac (decide (b27 = true)) s28 (decide (b29 = true)) s30 (decide (b63 = true)) s64 (decide (b65 = true)) s66) ∧
(∀ b67 : Bool,
((q_kSameFrac (decide (b27 = true)) s28 (decide (b29 = true)) s30 (decide (b63 = true)) s64 (decide (b65 = true)) s66 (decide (b67 = true))) →
(((b67 = true) →
(p_kFrac 1 1) ∧
(∀ b68 : Bool,
(∀ s69 : Sl,
((Ranged s69 [some .u16]) →
(∀ b70 : Bool,
(∀ s71 : Sl,
((Ranged s71 [some .u16]) →
((q_kFrac 1 1 (decide (b68 = true)) s69 (decide (b70 = true)) s71) →
(p_kSameFrac (decide (b35 = true)) s36 (decide (b37 = true)) s38 (decide (b68 = true)) s69 (decide (b70 = true)) s71) ∧
(∀ b72 : Bool,
((q_kSameFrac (decide (b35 = true)) s36 (decide (b37 = true)) s38 (decide (b68 = true)) s69 (decide (b70 = true)) s71 (decide (b72 = true))) →
(q_xAwake  (decide (b72 = true))) ∧ True)))))))))) ∧
(¬ (b67 = true) →
(q_xAwake  (decide False)) ∧ True)))))))))))) ∧
(¬ (b62 = true) →
(q_xAwake  (decide False)) ∧ True)))))))))))) ∧
(¬ (b57 = true) →
(q_xAwake  (decide False)) ∧ True)))))))))))) ∧
(¬ ((Sl.len s2) = 0) →
(q_xAwake  (decide False)) ∧ True)))) ∧
(¬ (b52 = true) →
(q_xAwake  (decide False)) ∧ True))))) ∧
(¬ (x51 = 6) →
(q_xAwake  (decide False)) ∧ True))) ∧
(¬ ((((((x1 + x3) + x11) + x19) + x31) + x39) = 0) →
(q_xAwake  (decide False)) ∧ True))))))))))))))))))))))))))))))))))))))))))))))))))))))))))))))))))))))))))))))))))))))))))))))))))
def V_yearsL : Prop :=
(∀ x0 : Int,
((Rng .i64 x0) →
(∀ x1 : Int,
((Rng .i64 x1) →
((p_yearsL x0 x1) →
(p_xYears x0 x1) ∧
(∀ s2 : Sl,
((Ranged s2 [some .i64]) →
(∀ x3 : Int,
((Rng .i64 x3) →
((q_xYears x0 x1 s2 x3) →
(p_rYears x0 x1) ∧
(∀ s4 : Sl,
((Ranged s4 [some .i64]) →
(∀ x5 : Int,
((Rng .i64 x5) →
((q_rYears x0 x1 s4 x5) →
(((x3 = x5) →
(p_kSameInts s2 s4) ∧
(∀ b6 : Bool,
((q_kSameInts s2 s4 (decide (b6 = true))) →
(q_yearsL x0 x1 (decide (b6 = true))) ∧ True))) ∧
(¬ (x3 = x5) →
(q_yearsL x0 x1 (decide False)) ∧ True)))))))))))))))))
def V_iBuilt : Prop :=
(∀ s0 : Sl,
((Ranged s0 [some .u16]) →
((p_iBuilt s0) →
(∃ (J1 : Int → Int → ByteArray → Bool → Sl → Prop) (M1 : Int → Int → ByteArray → Bool → Sl → Nat), J1 1900 0 (bytes [98, 117, 105, 108, 116]) (decide False) Sl.nil ∧
(∀ x2 : Int,
((Rng .i64 x2) →
(∀ x3 : Int,
((Rng .i64 x3) →
(∀ y4 : ByteArray,
(∀ b5 : Bool,
(∀ s6 : Sl,
((Ranged s6 [some .i64, some .i64, some .i64, none, none, none, none]) →
(J1 x2 x3 y4 (decide (b5 = true)) s6 →
(Rng .i64 (x3 + 1)) ∧
((Small s0) →
((((x3 + 1) < (Sl.len s0)) →
(((x3 < 100) →
(∃ J7 : Int → Prop,
((((0 : Int) ≤ x3) ∧
(x3 < (Sl.len s0)) ∧
((Rng .u16 (Sl.int s0 x3 0)) →
((8 : Int) ≠ 0) ∧
(Rng .u16 (Int.tmod (Sl.int s0 x3 0) 8)) ∧
((((Int.tmod (Sl.int s0 x3 0) 8) = 7) →
((0 : Int) ≤ x3) ∧
(x3 < (Sl.len s0)) ∧
((Rng .u16 (Sl.int s0 x3 0)) → J7 (Sl.int s0 x3 0))) ∧
(¬ ((Int.tmod (Sl.int s0 x3 0) 8) = 7) → J7 0)))) ∧
((∀ x8 : Int,
((Rng .i64 x8) →
(J7 x8 →
(∃ J9 : ByteArray → Bool → Sl → Prop,
(((Rng .i64 (x3 + 1)) ∧
((0 : Int) ≤ (x3 + 1)) ∧
((x3 + 1) < (Sl.len s0)) ∧
((Rng .u16 (Sl.int s0 (x3 + 1) 0)) →
((1000 : Int) ≠ 0) ∧
(Rng .i64 (Int.tmod (Sl.int s0 (x3 + 1) 0) 1000)) ∧
(Rng .i64 ((Int.tmod (Sl.int s0 (x3 + 1) 0) 1000) - 300)) ∧
(((p_iRow x2 x8 ((Int.tmod (Sl.int s0 (x3 + 1) 0) 1000) - 300) 1000) ∧
(∀ x10 : Int,
((Rng .i64 x10) →
(∀ x11 : Int,
((Rng .i64 x11) →
(∀ x12 : Int,
((Rng .i64 x12) →
(∀ b13 : Bool,
(∀ s14 : Sl,
((Ranged s14 [some .u16]) →
(∀ b15 : Bool,
(∀ s16 : Sl,
((Ranged s16 [some .u16]) →
((q_iRow x2 x8 ((Int.tmod (Sl.int s0 (x3 + 1) 0) 1000) - 300) 1000 x10 x11 x12 (decide (b13 = true)) s14 (decide (b15 = true)) s16) →
((((Sl.len s6) + (Sl.len (Sl.lit [[(.int x10), (.int x11), (.int x12), (.bool (decide (b13 = true))), (Sl.d s14), (.bool (decide (b15 = true))), (Sl.d s16)]]))) * 88) ≤ 140737488355328) ∧ J9 y4 (decide (b5 = true)) (Sl.app s6 (Sl.lit [[(.int x10), (.int x11), (.int x12), (.bool (decide (b13 = true))), (Sl.d s14), (.bool (decide (b15 = true))), (Sl.d s16)]])))))))))))))))) ∧
((p_iRow x2 x8 ((Int.tmod (Sl.int s0 (x3 + 1) 0) 1000) - 300) 1000) ∧
(∀ x10 : Int,
((Rng .i64 x10) →
(∀ x11 : Int,
((Rng .i64 x11) →
(∀ x12 : Int,
((Rng .i64 x12) →
(∀ b13 : Bool,
(∀ s14 : Sl,
((Ranged s14 [some .u16]) →
(∀ b15 : Bool,
(∀ s16 : Sl,
((Ranged s16 [some .u16]) →
((q_iRow x2 x8 ((Int.tmod (Sl.int s0 (x3 + 1) 0) 1000) - 300) 1000 x10 x11 x12 (decide (b13 = true)) s14 (decide (b15 = true)) s16) →
((((((Sl.len s6) + (Sl.len (Sl.lit [[(.int x10), (.int x11), (.int x12), (.bool (decide (b13 = true))), (Sl.d s14), (.bool (decide (b15 = true))), (Sl.d s16)]]))) * 88) ≤ 140737488355328) ∧ J9 y4 (decide (b5 = true)) (Sl.app s6 (Sl.lit [[(.int x10), (.int x11), (.int x12), (.bool (decide (b13 = true))), (Sl.d s14), (.bool (decide (b15 = true))), (Sl.d s16)]]))) ∧
(((((Sl.len s6) + (Sl.len (Sl.lit [[(.int x10), (.int x11), (.int x12), (.bool (decide (b13 = true))), (Sl.d s14), (.bool (decide (b15 = true))), (Sl.d s16)]]))) * 88) ≤ 140737488355328) ∧ J9 y4 (decide (b5 = true)) (Sl.app s6 (Sl.lit [[(.int x10), (.int x11), (.int x12), (.bool (decide (b13 = true))), (Sl.d s14), (.bool (decide (b15 = true))), (Sl.d s16)]]))))))))))))))))))))) ∧
((∀ y10 : ByteArray,
(∀ b11 : Bool,
(∀ s12 : Sl,
((Ranged s12 [some .i64, some .i64, some .i64, none, none, none, none]) →
(J9 y10 (decide (b11 = true)) s12 →
(∃ J13 : ByteArray → Bool → Sl → Prop,
((((0 : Int) ≤ x3) ∧
(x3 < (Sl.len s0)) ∧
((Rng .u16 (Sl.int s0 x3 0)) →
((8 : Int) ≠ 0) ∧
(Rng .u16 (Int.tmod (Sl.int s0 x3 0) 8)) ∧
((((Int.tmod (Sl.int s0 x3 0) 8) = 6) →
(((x8 = 0) →
((0 : Int) ≤ x3) ∧
(x3 < (Sl.len s0)) ∧
((Rng .u16 (Sl.int s0 x3 0)) →
(Rng .i64 (1 + (Sl.int s0 x3 0))) ∧
(Rng .i64 (x3 + 1)) ∧
((0 : Int) ≤ (x3 + 1)) ∧
((x3 + 1) < (Sl.len s0)) ∧
((Rng .u16 (Sl.int s0 (x3 + 1) 0)) →
((700 : Int) ≠ 0) ∧
(Rng .i64 (Int.tmod (Sl.int s0 (x3 + 1) 0) 700)) ∧
(((p_iRow x2 (1 + (Sl.int s0 x3 0)) (Int.tmod (Sl.int s0 (x3 + 1) 0) 700) 1000) ∧
(∀ x14 : Int,
((Rng .i64 x14) →
(∀ x15 : Int,
((Rng .i64 x15) →
(∀ x16 : Int,
((Rng .i64 x16) →
(∀ b17 : Bool,
(∀ s18 : Sl,
((Ranged s18 [some .u16]) →
(∀ b19 : Bool,
(∀ s20 : Sl,
((Ranged s20 [some .u16]) →
((q_iRow x2 (1 + (Sl.int s0 x3 0)) (Int.tmod (Sl.int s0 (x3 + 1) 0) 700) 1000 x14 x15 x16 (decide (b17 = true)) s18 (decide (b19 = true)) s20) →
((((Sl.len s12) + (Sl.len (Sl.lit [[(.int x14), (.int x15), (.int x16), (.bool (decide (b17 = true))), (Sl.d s18), (.bool (decide (b19 = true))), (Sl.d s20)]]))) * 88) ≤ 140737488355328) ∧ J13 y10 (decide (b11 = true)) (Sl.app s12 (Sl.lit [[(.int x14), (.int x15), (.int x16), (.bool (decide (b17 = true))), (Sl.d s18), (.bool (decide (b19 = true))), (Sl.d s20)]])))))))))))))))) ∧
((p_iRow x2 (1 + (Sl.int s0 x3 0)) (Int.tmod (Sl.int s0 (x3 + 1) 0) 700) 1000) ∧
(∀ x14 : Int,
((Rng .i64 x14) →
(∀ x15 : Int,
((Rng .i64 x15) →
(∀ x16 : Int,
((Rng .i64 x16) →
(∀ b17 : Bool,
(∀ s18 : Sl,
((Ranged s18 [some .u16]) →
(∀ b19 : Bool,
(∀ s20 : Sl,
((Ranged s20 [some .u16]) →
((q_iRow x2 (1 + (Sl.int s0 x3 0)) (Int.tmod (Sl.int s0 (x3 + 1) 0) 700) 1000 x14 x15 x16 (decide (b17 = true)) s18 (decide (b19 = true)) s20) →
((((((Sl.len s12) + (Sl.len (Sl.lit [[(.int x14), (.int x15), (.int x16), (.bool (decide (b17 = true))), (Sl.d s18), (.bool (decide (b19 = true))), (Sl.d s20)]]))) * 88) ≤ 140737488355328) ∧ J13 y10 (decide (b11 = true)) (Sl.app s12 (Sl.lit [[(.int x14), (.int x15), (.int x16), (.bool (decide (b17 = true))), (Sl.d s18), (.bool (decide (b19 = true))), (Sl.d s20)]]))) ∧
(((((Sl.len s12) + (Sl.len (Sl.lit [[(.int x14), (.int x15), (.int x16), (.bool (decide (b17 = true))), (Sl.d s18), (.bool (decide (b19 = true))), (Sl.d s20)]]))) * 88) ≤ 140737488355328) ∧ J13 y10 (decide (b11 = true)) (Sl.app s12 (Sl.lit [[(.int x14), (.int x15), (.int x16), (.bool (decide (b17 = true))), (Sl.d s18), (.bool (decide (b19 = true))), (Sl.d s20)]])))))))))))))))))))))) ∧
(¬ (x8 = 0) → J13 y10 (decide (b11 = true)) s12))) ∧
(¬ ((Int.tmod (Sl.int s0 x3 0) 8) = 6) → J13 y10 (decide (b11 = true)) s12)))) ∧
((∀ y14 : ByteArray,
(∀ b15 : Bool,
(∀ s16 : Sl,
((Ranged s16 [some .i64, some .i64, some .i64, none, none, none, none]) →
(J13 y14 (decide (b15 = true)) s16 →
((0 : Int) ≤ x3) ∧
(x3 < (Sl.len s0)) ∧
((Rng .u16 (Sl.int s0 x3 0)) →
((8 : Int) ≠ 0) ∧
(Rng .i64 (Int.tdiv (Sl.int s0 x3 0) 8)) ∧
((3 : Int) ≠ 0) ∧
(Rng .i64 (Int.tmod (Int.tdiv (Sl.int s0 x3 0) 8) 3)) ∧
(Rng .i64 (1 + (Int.tmod (Int.tdiv (Sl.int s0 x3 0) 8) 3))) ∧
(Rng .i64 (x2 + (1 + (Int.tmod (Int.tdiv (Sl.int s0 x3 0) 8) 3)))) ∧
(Rng .i64 (x3 + 2)) ∧
(J1 (x2 + (1 + (Int.tmod (Int.tdiv (Sl.int s0 x3 0) 8) 3))) (x3 + 2) y14 (decide (b15 = true)) s16 ∧ M1 (x2 + (1 + (Int.tmod (Int.tdiv (Sl.int s0 x3 0) 8) 3))) (x3 + 2) y14 (decide (b15 = true)) s16 < M1 x2 x3 y4 (decide (b5 = true)) s6))))))))))))))))))))))))) ∧
(¬ (x3 < 100) →
(q_iBuilt s0 y4 (decide (b5 = true)) s6) ∧ True))) ∧
(¬ ((x3 + 1) < (Sl.len s0)) →
(q_iBuilt s0 y4 (decide (b5 = true)) s6) ∧ True))))))))))))))))
def V_asked : Prop :=
(∀ x0 : Int,
((Rng .i64 x0) →
(∀ x1 : Int,
((Rng .i64 x1) →
((p_asked x0 x1) →
(p_kPick x0 20000) ∧
(∀ x2 : Int,
((Rng .i64 x2) →
((q_kPick x0 20000 x2) →
(p_kPick x1 20000) ∧
(∀ x3 : Int,
((Rng .i64 x3) →
((q_kPick x1 20000 x3) →
(Rng .i64 ((imin x2 x3) + 12000)) ∧
(q_asked x0 x1 (imin x2 x3) (imin (imax x2 x3) ((imin x2 x3) + 12000))) ∧ True)))))))))))
end Go.Sx.N
