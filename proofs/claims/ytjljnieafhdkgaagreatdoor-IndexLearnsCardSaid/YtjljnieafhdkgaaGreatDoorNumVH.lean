/-
  The conditions of the functions. Conditions: none; printed by a program of our own.
-/
import Derived.Test.YtjljnieafhdkgaaGreatDoorIdxSpec
set_option maxRecDepth 20000
namespace Go.Sx.N
def V_cLeap : Prop :=
(∀ x0 : Int,
((Rng .i64 x0) →
((p_cLeap x0) →
((4 : Int) ≠ 0) ∧
(Rng .i64 (Int.tmod x0 4)) ∧
((((Int.tmod x0 4) = 0) →
((100 : Int) ≠ 0) ∧
(Rng .i64 (Int.tmod x0 100)) ∧
((((Int.tmod x0 100) ≠ 0) →
(q_cLeap x0 (decide True)) ∧ True) ∧
(¬ ((Int.tmod x0 100) ≠ 0) →
((400 : Int) ≠ 0) ∧
(Rng .i64 (Int.tmod x0 400)) ∧
(q_cLeap x0 (decide ((Int.tmod x0 400) = 0))) ∧ True))) ∧
(¬ ((Int.tmod x0 4) = 0) →
(q_cLeap x0 (decide False)) ∧ True)))))
def V_cLeaps : Prop :=
(∀ x0 : Int,
((Rng .i64 x0) →
((p_cLeaps x0) →
((4 : Int) ≠ 0) ∧
(Rng .i64 (Int.tdiv x0 4)) ∧
((100 : Int) ≠ 0) ∧
(Rng .i64 (Int.tdiv x0 100)) ∧
(Rng .i64 ((Int.tdiv x0 4) - (Int.tdiv x0 100))) ∧
((400 : Int) ≠ 0) ∧
(Rng .i64 (Int.tdiv x0 400)) ∧
(Rng .i64 (((Int.tdiv x0 4) - (Int.tdiv x0 100)) + (Int.tdiv x0 400))) ∧
(q_cLeaps x0 (((Int.tdiv x0 4) - (Int.tdiv x0 100)) + (Int.tdiv x0 400))) ∧ True)))
def V_cLen : Prop :=
(∀ x0 : Int,
((Rng .i64 x0) →
(∀ x1 : Int,
((Rng .i64 x1) →
((p_cLen x0 x1) →
(((x1 < 1) →
(q_cLen x0 x1 0) ∧ True) ∧
(¬ (x1 < 1) →
(((x1 > 12) →
(q_cLen x0 x1 0) ∧ True) ∧
(¬ (x1 > 12) →
(((x1 = 2) →
(p_cLeap x0) ∧
(∀ b2 : Bool,
((q_cLeap x0 (decide (b2 = true))) →
(((b2 = true) →
(q_cLen x0 x1 29) ∧ True) ∧
(¬ (b2 = true) →
(Rng .i64 (x1 - 1)) ∧
((0 : Int) ≤ (x1 - 1)) ∧
((x1 - 1) < 12) ∧
((Rng .i64 (Sl.int (Sl.lit [[(.int 31)], [(.int 28)], [(.int 31)], [(.int 30)], [(.int 31)], [(.int 30)], [(.int 31)], [(.int 31)], [(.int 30)], [(.int 31)], [(.int 30)], [(.int 31)]]) (x1 - 1) 0)) →
(q_cLen x0 x1 (Sl.int (Sl.lit [[(.int 31)], [(.int 28)], [(.int 31)], [(.int 30)], [(.int 31)], [(.int 30)], [(.int 31)], [(.int 31)], [(.int 30)], [(.int 31)], [(.int 30)], [(.int 31)]]) (x1 - 1) 0)) ∧ True)))))) ∧
(¬ (x1 = 2) →
(Rng .i64 (x1 - 1)) ∧
((0 : Int) ≤ (x1 - 1)) ∧
((x1 - 1) < 12) ∧
((Rng .i64 (Sl.int (Sl.lit [[(.int 31)], [(.int 28)], [(.int 31)], [(.int 30)], [(.int 31)], [(.int 30)], [(.int 31)], [(.int 31)], [(.int 30)], [(.int 31)], [(.int 30)], [(.int 31)]]) (x1 - 1) 0)) →
(q_cLen x0 x1 (Sl.int (Sl.lit [[(.int 31)], [(.int 28)], [(.int 31)], [(.int 30)], [(.int 31)], [(.int 30)], [(.int 31)], [(.int 31)], [(.int 30)], [(.int 31)], [(.int 30)], [(.int 31)]]) (x1 - 1) 0)) ∧ True))))))))))))
def V_cStart : Prop :=
(∀ x0 : Int,
((Rng .i64 x0) →
((p_cStart x0) →
((12 : Int) ≠ 0) ∧
(Rng .i64 (Int.tdiv x0 12)) ∧
(Rng .i64 (1900 + (Int.tdiv x0 12))) ∧
(Rng .i64 ((1900 + (Int.tdiv x0 12)) - 1900)) ∧
(Rng .i64 (365 * ((1900 + (Int.tdiv x0 12)) - 1900))) ∧
(Rng .i64 ((1900 + (Int.tdiv x0 12)) - 1)) ∧
(p_cLeaps ((1900 + (Int.tdiv x0 12)) - 1)) ∧
(∀ x1 : Int,
((Rng .i64 x1) →
((q_cLeaps ((1900 + (Int.tdiv x0 12)) - 1) x1) →
(Rng .i64 ((365 * ((1900 + (Int.tdiv x0 12)) - 1900)) + x1)) ∧
(p_cLeaps 1899) ∧
(∀ x2 : Int,
((Rng .i64 x2) →
((q_cLeaps 1899 x2) →
(Rng .i64 (((365 * ((1900 + (Int.tdiv x0 12)) - 1900)) + x1) - x2)) ∧
(∃ (J3 : Int → Int → Prop) (M3 : Int → Int → Nat), J3 (((365 * ((1900 + (Int.tdiv x0 12)) - 1900)) + x1) - x2) 1 ∧
(∀ x4 : Int,
((Rng .i64 x4) →
(∀ x5 : Int,
((Rng .i64 x5) →
(J3 x4 x5 →
((12 : Int) ≠ 0) ∧
(Rng .i64 (Int.tmod x0 12)) ∧
(((x5 ≤ (Int.tmod x0 12)) →
(p_cLen (1900 + (Int.tdiv x0 12)) x5) ∧
(∀ x6 : Int,
((Rng .i64 x6) →
((q_cLen (1900 + (Int.tdiv x0 12)) x5 x6) →
(Rng .i64 (x4 + x6)) ∧
(Rng .i64 (x5 + 1)) ∧
(J3 (x4 + x6) (x5 + 1) ∧ M3 (x4 + x6) (x5 + 1) < M3 x4 x5))))) ∧
(¬ (x5 ≤ (Int.tmod x0 12)) →
(q_cStart x0 x4) ∧ True)))))))))))))))))
def V_cIsDate : Prop :=
(∀ x0 : Int,
((Rng .i64 x0) →
((p_cIsDate x0) →
(((x0 ≥ 0) →
(q_cIsDate x0 (decide (x0 < 65536))) ∧ True) ∧
(¬ (x0 ≥ 0) →
(q_cIsDate x0 (decide False)) ∧ True)))))
def V_cDay : Prop :=
(∀ x0 : Int,
((Rng .i64 x0) →
(∀ x1 : Int,
((Rng .i64 x1) →
(∀ x2 : Int,
((Rng .i64 x2) →
((p_cDay x0 x1 x2) →
(((x0 < 1900) →
(q_cDay x0 x1 x2 0 2) ∧ True) ∧
(¬ (x0 < 1900) →
(((x0 > 2079) →
(q_cDay x0 x1 x2 0 2) ∧ True) ∧
(¬ (x0 > 2079) →
(((x2 < 1) →
(q_cDay x0 x1 x2 0 2) ∧ True) ∧
(¬ (x2 < 1) →
(p_cLen x0 x1) ∧
(∀ x3 : Int,
((Rng .i64 x3) →
((q_cLen x0 x1 x3) →
(((x2 > x3) →
(q_cDay x0 x1 x2 0 2) ∧ True) ∧
(¬ (x2 > x3) →
(Rng .i64 (x0 - 1900)) ∧
(Rng .i64 (12 * (x0 - 1900))) ∧
(Rng .i64 ((12 * (x0 - 1900)) + x1)) ∧
(Rng .i64 (((12 * (x0 - 1900)) + x1) - 1)) ∧
(p_cStart (((12 * (x0 - 1900)) + x1) - 1)) ∧
(∀ x4 : Int,
((Rng .i64 x4) →
((q_cStart (((12 * (x0 - 1900)) + x1) - 1) x4) →
(Rng .i64 (x4 + x2)) ∧
(Rng .i64 ((x4 + x2) - 1)) ∧
(p_cIsDate ((x4 + x2) - 1)) ∧
(∀ b5 : Bool,
((q_cIsDate ((x4 + x2) - 1) (decide (b5 = true))) →
(((¬ (b5 = true)) →
(q_cDay x0 x1 x2 0 2) ∧ True) ∧
(¬ (¬ (b5 = true)) →
(q_cDay x0 x1 x2 ((x4 + x2) - 1) 0) ∧ True)))))))))))))))))))))))))
def V_isSpan : Prop :=
(∀ x0 : Int,
((Rng .i64 x0) →
(∀ x1 : Int,
((Rng .i64 x1) →
((p_isSpan x0 x1) →
((((0 : Int) ≤ x0) →
(((x0 ≤ 65536) →
((((0 : Int) ≤ x1) →
(q_isSpan x0 x1 (decide (x1 ≤ 65536))) ∧ True) ∧
(¬ ((0 : Int) ≤ x1) →
(q_isSpan x0 x1 (decide False)) ∧ True))) ∧
(¬ (x0 ≤ 65536) →
(q_isSpan x0 x1 (decide False)) ∧ True))) ∧
(¬ ((0 : Int) ≤ x0) →
(q_isSpan x0 x1 (decide False)) ∧ True)))))))
def V_xYears : Prop :=
(∀ x0 : Int,
((Rng .i64 x0) →
(∀ x1 : Int,
((Rng .i64 x1) →
((p_xYears x0 x1) →
(p_isSpan x0 x1) ∧
(∀ b2 : Bool,
((q_isSpan x0 x1 (decide (b2 = true))) →
(((¬ (b2 = true)) →
(q_xYears x0 x1 Sl.nil 2) ∧ True) ∧
(¬ (¬ (b2 = true)) →
(∃ (J3 : Int → Sl → Prop) (M3 : Int → Sl → Nat), J3 1900 Sl.nil ∧
(∀ x4 : Int,
((Rng .i64 x4) →
(∀ s5 : Sl,
((Ranged s5 [some .i64]) →
(J3 x4 s5 →
(p_cDay x4 1 1) ∧
(∀ x6 : Int,
((Rng .i64 x6) →
(∀ x7 : Int,
((Rng .i64 x7) →
((q_cDay x4 1 1 x6 x7) →
(((x7 ≠ 0) →
(q_xYears x0 x1 s5 0) ∧ True) ∧
(¬ (x7 ≠ 0) →
(((x6 ≥ x1) →
(q_xYears x0 x1 s5 0) ∧ True) ∧
(¬ (x6 ≥ x1) →
(((x6 ≥ x0) →
((((Sl.len s5) + (Sl.len (Sl.lit [[(.int x4)]]))) * 8) ≤ 140737488355328) ∧
(Rng .i64 (x4 + 1)) ∧
(J3 (x4 + 1) (Sl.app s5 (Sl.lit [[(.int x4)]])) ∧ M3 (x4 + 1) (Sl.app s5 (Sl.lit [[(.int x4)]])) < M3 x4 s5)) ∧
(¬ (x6 ≥ x0) →
(Rng .i64 (x4 + 1)) ∧
(J3 (x4 + 1) s5 ∧ M3 (x4 + 1) s5 < M3 x4 s5)))))))))))))))))))))))))))
def V_xGrow : Prop :=
(∀ y0 : ByteArray,
(∀ b1 : Bool,
(∀ s2 : Sl,
((Ranged s2 [some .i64, some .i64, some .i64, none, none, none, none]) →
(∀ x3 : Int,
((Rng .i64 x3) →
(∀ x4 : Int,
((Rng .i64 x4) →
(∀ x5 : Int,
((Rng .i64 x5) →
((p_xGrow y0 (decide (b1 = true)) s2 x3 x4 x5) →
(p_tValid y0 (decide (b1 = true)) s2) ∧
(∀ b6 : Bool,
((q_tValid y0 (decide (b1 = true)) s2 (decide (b6 = true))) →
(((¬ (b6 = true)) →
(q_xGrow y0 (decide (b1 = true)) s2 x3 x4 x5 (decide False) Sl.nil (decide False) Sl.nil 2) ∧ True) ∧
(¬ (¬ (b6 = true)) →
(((b1 = true) →
(q_xGrow y0 (decide (b1 = true)) s2 x3 x4 x5 (decide False) Sl.nil (decide False) Sl.nil 2) ∧ True) ∧
(¬ (b1 = true) →
(p_isSpan x3 x4) ∧
(∀ b7 : Bool,
((q_isSpan x3 x4 (decide (b7 = true))) →
(((¬ (b7 = true)) →
(q_xGrow y0 (decide (b1 = true)) s2 x3 x4 x5 (decide False) Sl.nil (decide False) Sl.nil 2) ∧ True) ∧
(¬ (¬ (b7 = true)) →
(p_fFromInt 1) ∧
(∀ b8 : Bool,
(∀ s9 : Sl,
((Ranged s9 [some .u16]) →
(∀ b10 : Bool,
(∀ s11 : Sl,
((Ranged s11 [some .u16]) →
((q_fFromInt 1 (decide (b8 = true)) s9 (decide (b10 = true)) s11) →
(p_fFromInt 1) ∧
(∀ b12 : Bool,
(∀ s13 : Sl,
((Ranged s13 [some .u16]) →
(∀ b14 : Bool,
(∀ s15 : Sl,
((Ranged s15 [some .u16]) →
((q_fFromInt 1 (decide (b12 = true)) s13 (decide (b14 = true)) s15) →
(∃ (J16 : Int → Bool → Sl → Bool → Sl → Int → Bool → Sl → Bool → Sl → Prop) (M16 : Int → Bool → Sl → Bool → Sl → Int → Bool → Sl → Bool → Sl → Nat), J16 1900 (decide False) Sl.nil (decide False) Sl.nil 0 (decide (b12 = true)) s13 (decide (b14 = true)) s15 ∧
(∀ x17 : Int,
((Rng .i64 x17) →
(∀ b18 : Bool,
(∀ s19 : Sl,
((Ranged s19 [some .u16]) →
(∀ b20 : Bool,
(∀ s21 : Sl,
((Ranged s21 [some .u16]) →
(∀ x22 : Int,
((Rng .i64 x22) →
(∀ b23 : Bool,
(∀ s24 : Sl,
((Ranged s24 [some .u16]) →
(∀ b25 : Bool,
(∀ s26 : Sl,
((Ranged s26 [some .u16]) →
(J16 x17 (decide (b18 = true)) s19 (decide (b20 = true)) s21 x22 (decide (b23 = true)) s24 (decide (b25 = true)) s26 →
(p_cDay x17 1 1) ∧
(∀ x27 : Int,
((Rng .i64 x27) →
(∀ x28 : Int,
((Rng .i64 x28) →
((q_cDay x17 1 1 x27 x28) →
(((x28 ≠ 0) →
(q_xGrow y0 (decide (b1 = true)) s2 x3 x4 x5 (decide (b23 = true)) s24 (decide (b25 = true)) s26 0) ∧ True) ∧
(¬ (x28 ≠ 0) →
(((x27 ≥ x4) →
(q_xGrow y0 (decide (b1 = true)) s2 x3 x4 x5 (decide (b23 = true)) s24 (decide (b25 = true)) s26 0) ∧ True) ∧
(¬ (x27 ≥ x4) →
(((x27 ≥ x3) →
(∃ (J29 : Int → Bool → Sl → Bool → Sl → Bool → Sl → Bool → Sl → Prop) (M29 : Int → Bool → Sl → Bool → Sl → Bool → Sl → Bool → Sl → Nat), J29 0 (decide False) Sl.nil (decide False) Sl.nil (decide (b8 = true)) s9 (decide (b10 = true)) s11 ∧
(∀ x30 : Int,
((Rng .i64 x30) →
(∀ b31 : Bool,
(∀ s32 : Sl,
((Ranged s32 [some .u16]) →
(∀ b33 : Bool,
(∀ s34 : Sl,
((Ranged s34 [some .u16]) →
(∀ b35 : Bool,
(∀ s36 : Sl,
((Ranged s36 [some .u16]) →
(∀ b37 : Bool,
(∀ s38 : Sl,
((Ranged s38 [some .u16]) →
(J29 x30 (decide (b31 = true)) s32 (decide (b33 = true)) s34 (decide (b35 = true)) s36 (decide (b37 = true)) s38 →
(((x30 < 3) →
((0 : Int) ≤ x30) ∧
(x30 < 3) ∧
(((x30 = 0) →
(p_Look y0 (decide (b1 = true)) s2 x17 x5) ∧
(∀ b39 : Bool,
(∀ s40 : Sl,
((Ranged s40 [some .u16]) →
(∀ b41 : Bool,
(∀ s42 : Sl,
((Ranged s42 [some .u16]) →
(∀ x43 : Int,
((Rng .i64 x43) →
((q_Look y0 (decide (b1 = true)) s2 x17 x5 (decide (b39 = true)) s40 (decide (b41 = true)) s42 x43) →
(((x43 ≠ 0) →
(((x43 ≠ 0) →
(q_xGrow y0 (decide (b1 = true)) s2 x3 x4 x5 (decide False) Sl.nil (decide False) Sl.nil x43) ∧ True) ∧
(¬ (x43 ≠ 0) →
(Rng .i64 (x17 + 1)) ∧
(J16 (x17 + 1) (decide (b18 = true)) s19 (decide (b20 = true)) s21 x22 (decide False) Sl.nil (decide False) Sl.nil ∧ M16 (x17 + 1) (decide (b18 = true)) s19 (decide (b20 = true)) s21 x22 (decide False) Sl.nil (decide False) Sl.nil < M16 x17 (decide (b18 = true)) s19 (decide (b20 = true)) s21 x22 (decide (b23 = true)) s24 (decide (b25 = true)) s26)))) ∧
(¬ (x43 ≠ 0) →
(Rng .i64 (x30 + 1)) ∧
(J29 (x30 + 1) (decide (b31 = true)) s32 (decide (b33 = true)) s34 (decide (b39 = true)) s40 (decide (b41 = true)) s42 ∧ M29 (x30 + 1) (decide (b31 = true)) s32 (decide (b33 = true)) s34 (decide (b39 = true)) s40 (decide (b41 = true)) s42 < M29 x30 (decide (b31 = true)) s32 (decide (b33 = true)) s34 (decide (b35 = true)) s36 (decide (b37 = true)) s38))))))))))))) ∧
(¬ (x30 = 0) →
(((x30 = 1) →
(p_fAdd (decide (b8 = true)) s9 (decide (b10 = true)) s11 (decide (b35 = true)) s36 (decide (b37 = true)) s38) ∧
(∀ b39 : Bool,
(∀ s40 : Sl,
((Ranged s40 [some .u16]) →
(∀ b41 : Bool,
(∀ s42 : Sl,
((Ranged s42 [some .u16]) →
(∀ x43 : Int,
((Rng .i64 x43) →
((q_fAdd (decide (b8 = true)) s9 (decide (b10 = true)) s11 (decide (b35 = true)) s36 (decide (b37 = true)) s38 (decide (b39 = true)) s40 (decide (b41 = true)) s42 x43) →
(((x43 ≠ 0) →
(((x43 ≠ 0) →
(q_xGrow y0 (decide (b1 = true)) s2 x3 x4 x5 (decide False) Sl.nil (decide False) Sl.nil x43) ∧ True) ∧
(¬ (x43 ≠ 0) →
(Rng .i64 (x17 + 1)) ∧
(J16 (x17 + 1) (decide (b18 = true)) s19 (decide (b20 = true)) s21 x22 (decide False) Sl.nil (decide False) Sl.nil ∧ M16 (x17 + 1) (decide (b18 = true)) s19 (decide (b20 = true)) s21 x22 (decide False) Sl.nil (decide False) Sl.nil < M16 x17 (decide (b18 = true)) s19 (decide (b20 = true)) s21 x22 (decide (b23 = true)) s24 (decide (b25 = true)) s26)))) ∧
(¬ (x43 ≠ 0) →
(Rng .i64 (x30 + 1)) ∧
(J29 (x30 + 1) (decide (b31 = true)) s32 (decide (b33 = true)) s34 (decide (b39 = true)) s40 (decide (b41 = true)) s42 ∧ M29 (x30 + 1) (decide (b31 = true)) s32 (decide (b33 = true)) s34 (decide (b39 = true)) s40 (decide (b41 = true)) s42 < M29 x30 (decide (b31 = true)) s32 (decide (b33 = true)) s34 (decide (b35 = true)) s36 (decide (b37 = true)) s38))))))))))))) ∧
(¬ (x30 = 1) →
(p_fMul (decide (b23 = true)) s24 (decide (b25 = true)) s26 (decide (b35 = true)) s36 (decide (b37 = true)) s38) ∧
(∀ b39 : Bool,
(∀ s40 : Sl,
((Ranged s40 [some .u16]) →
(∀ b41 : Bool,
(∀ s42 : Sl,
((Ranged s42 [some .u16]) →
(∀ x43 : Int,
((Rng .i64 x43) →
((q_fMul (decide (b23 = true)) s24 (decide (b25 = true)) s26 (decide (b35 = true)) s36 (decide (b37 = true)) s38 (decide (b39 = true)) s40 (decide (b41 = true)) s42 x43) →
(((x43 ≠ 0) →
(((x43 ≠ 0) →
(q_xGrow y0 (decide (b1 = true)) s2 x3 x4 x5 (decide False) Sl.nil (decide False) Sl.nil x43) ∧ True) ∧
(¬ (x43 ≠ 0) →
(Rng .i64 (x17 + 1)) ∧
(J16 (x17 + 1) (decide (b18 = true)) s19 (decide (b20 = true)) s21 x22 (decide False) Sl.nil (decide False) Sl.nil ∧ M16 (x17 + 1) (decide (b18 = true)) s19 (decide (b20 = true)) s21 x22 (decide False) Sl.nil (decide False) Sl.nil < M16 x17 (decide (b18 = true)) s19 (decide (b20 = true)) s21 x22 (decide (b23 = true)) s24 (decide (b25 = true)) s26)))) ∧
(¬ (x43 ≠ 0) →
(Rng .i64 (x30 + 1)) ∧
(J29 (x30 + 1) (decide (b31 = true)) s32 (decide (b33 = true)) s34 (decide (b39 = true)) s40 (decide (b41 = true)) s42 ∧ M29 (x30 + 1) (decide (b31 = true)) s32 (decide (b33 = true)) s34 (decide (b39 = true)) s40 (decide (b41 = true)) s42 < M29 x30 (decide (b31 = true)) s32 (decide (b33 = true)) s34 (decide (b35 = true)) s36 (decide (b37 = true)) s38))))))))))))))))) ∧
(¬ (x30 < 3) →
((((0 : Int) ≠ 0) →
(q_xGrow y0 (decide (b1 = true)) s2 x3 x4 x5 (decide False) Sl.nil (decide False) Sl.nil 0) ∧ True) ∧
(¬ ((0 : Int) ≠ 0) →
(Rng .i64 (x17 + 1)) ∧
(J16 (x17 + 1) (decide (b18 = true)) s19 (decide (b20 = true)) s21 x22 (decide (b35 = true)) s36 (decide (b37 = true)) s38 ∧ M16 (x17 + 1) (decide (b18 = true)) s19 (decide (b20 = true)) s21 x22 (decide (b35 = true)) s36 (decide (b37 = true)) s38 < M16 x17 (decide (b18 = true)) s19 (decide (b20 = true)) s21 x22 (decide (b23 = true)) s24 (decide (b25 = true)) s26)))))))))))))))))))))) ∧
(¬ (x27 ≥ x3) →
(Rng .i64 (x17 + 1)) ∧
(J16 (x17 + 1) (decide (b18 = true)) s19 (decide (b20 = true)) s21 x22 (decide (b23 = true)) s24 (decide (b25 = true)) s26 ∧ M16 (x17 + 1) (decide (b18 = true)) s19 (decide (b20 = true)) s21 x22 (decide (b23 = true)) s24 (decide (b25 = true)) s26 < M16 x17 (decide (b18 = true)) s19 (decide (b20 = true)) s21 x22 (decide (b23 = true)) s24 (decide (b25 = true)) s26)))))))))))))))))))))))))))))))))))))))))))))))))))))))))))))))))
def V_xRaise : Prop :=
(∀ b0 : Bool,
(∀ s1 : Sl,
((Ranged s1 [some .u16]) →
(∀ b2 : Bool,
(∀ s3 : Sl,
((Ranged s3 [some .u16]) →
(∀ y4 : ByteArray,
(∀ b5 : Bool,
(∀ s6 : Sl,
((Ranged s6 [some .i64, some .i64, some .i64, none, none, none, none]) →
(∀ x7 : Int,
((Rng .i64 x7) →
(∀ x8 : Int,
((Rng .i64 x8) →
(∀ x9 : Int,
((Rng .i64 x9) →
((p_xRaise (decide (b0 = true)) s1 (decide (b2 = true)) s3 y4 (decide (b5 = true)) s6 x7 x8 x9) →
(p_fValid (decide (b0 = true)) s1 (decide (b2 = true)) s3) ∧
(∀ b10 : Bool,
((q_fValid (decide (b0 = true)) s1 (decide (b2 = true)) s3 (decide (b10 = true))) →
(((¬ (b10 = true)) →
(q_xRaise (decide (b0 = true)) s1 (decide (b2 = true)) s3 y4 (decide (b5 = true)) s6 x7 x8 x9 (decide False) Sl.nil (decide False) Sl.nil 2) ∧ True) ∧
(¬ (¬ (b10 = true)) →
(p_xGrow y4 (decide (b5 = true)) s6 x7 x8 x9) ∧
(∀ b11 : Bool,
(∀ s12 : Sl,
((Ranged s12 [some .u16]) →
(∀ b13 : Bool,
(∀ s14 : Sl,
((Ranged s14 [some .u16]) →
(∀ x15 : Int,
((Rng .i64 x15) →
((q_xGrow y4 (decide (b5 = true)) s6 x7 x8 x9 (decide (b11 = true)) s12 (decide (b13 = true)) s14 x15) →
(((x15 ≠ 0) →
(q_xRaise (decide (b0 = true)) s1 (decide (b2 = true)) s3 y4 (decide (b5 = true)) s6 x7 x8 x9 (decide False) Sl.nil (decide False) Sl.nil x15) ∧ True) ∧
(¬ (x15 ≠ 0) →
(p_fMul (decide (b0 = true)) s1 (decide (b2 = true)) s3 (decide (b11 = true)) s12 (decide (b13 = true)) s14) ∧
(∀ b16 : Bool,
(∀ s17 : Sl,
((Ranged s17 [some .u16]) →
(∀ b18 : Bool,
(∀ s19 : Sl,
((Ranged s19 [some .u16]) →
(∀ x20 : Int,
((Rng .i64 x20) →
((q_fMul (decide (b0 = true)) s1 (decide (b2 = true)) s3 (decide (b11 = true)) s12 (decide (b13 = true)) s14 (decide (b16 = true)) s17 (decide (b18 = true)) s19 x20) →
(q_xRaise (decide (b0 = true)) s1 (decide (b2 = true)) s3 y4 (decide (b5 = true)) s6 x7 x8 x9 (decide (b16 = true)) s17 (decide (b18 = true)) s19 x20) ∧ True)))))))))))))))))))))))))))))))))))))))))
def V_xLower : Prop :=
(∀ b0 : Bool,
(∀ s1 : Sl,
((Ranged s1 [some .u16]) →
(∀ b2 : Bool,
(∀ s3 : Sl,
((Ranged s3 [some .u16]) →
(∀ y4 : ByteArray,
(∀ b5 : Bool,
(∀ s6 : Sl,
((Ranged s6 [some .i64, some .i64, some .i64, none, none, none, none]) →
(∀ x7 : Int,
((Rng .i64 x7) →
(∀ x8 : Int,
((Rng .i64 x8) →
(∀ x9 : Int,
((Rng .i64 x9) →
((p_xLower (decide (b0 = true)) s1 (decide (b2 = true)) s3 y4 (decide (b5 = true)) s6 x7 x8 x9) →
(p_fValid (decide (b0 = true)) s1 (decide (b2 = true)) s3) ∧
(∀ b10 : Bool,
((q_fValid (decide (b0 = true)) s1 (decide (b2 = true)) s3 (decide (b10 = true))) →
(((¬ (b10 = true)) →
(q_xLower (decide (b0 = true)) s1 (decide (b2 = true)) s3 y4 (decide (b5 = true)) s6 x7 x8 x9 (decide False) Sl.nil (decide False) Sl.nil 2) ∧ True) ∧
(¬ (¬ (b10 = true)) →
(p_xGrow y4 (decide (b5 = true)) s6 x7 x8 x9) ∧
(∀ b11 : Bool,
(∀ s12 : Sl,
((Ranged s12 [some .u16]) →
(∀ b13 : Bool,
(∀ s14 : Sl,
((Ranged s14 [some .u16]) →
(∀ x15 : Int,
((Rng .i64 x15) →
((q_xGrow y4 (decide (b5 = true)) s6 x7 x8 x9 (decide (b11 = true)) s12 (decide (b13 = true)) s14 x15) →
(((x15 ≠ 0) →
(q_xLower (decide (b0 = true)) s1 (decide (b2 = true)) s3 y4 (decide (b5 = true)) s6 x7 x8 x9 (decide False) Sl.nil (decide False) Sl.nil x15) ∧ True) ∧
(¬ (x15 ≠ 0) →
(p_fDiv (decide (b0 = true)) s1 (decide (b2 = true)) s3 (decide (b11 = true)) s12 (decide (b13 = true)) s14) ∧
(∀ b16 : Bool,
(∀ s17 : Sl,
((Ranged s17 [some .u16]) →
(∀ b18 : Bool,
(∀ s19 : Sl,
((Ranged s19 [some .u16]) →
(∀ x20 : Int,
((Rng .i64 x20) →
((q_fDiv (decide (b0 = true)) s1 (decide (b2 = true)) s3 (decide (b11 = true)) s12 (decide (b13 = true)) s14 (decide (b16 = true)) s17 (decide (b18 = true)) s19 x20) →
(q_xLower (decide (b0 = true)) s1 (decide (b2 = true)) s3 y4 (decide (b5 = true)) s6 x7 x8 x9 (decide (b16 = true)) s17 (decide (b18 = true)) s19 x20) ∧ True)))))))))))))))))))))))))))))))))))))))))
end Go.Sx.N
