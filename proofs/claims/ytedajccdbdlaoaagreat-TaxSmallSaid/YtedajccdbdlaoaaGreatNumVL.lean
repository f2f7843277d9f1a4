/-
  The conditions of the functions. Conditions: none; printed by a program of our own.
-/
import Derived.Test.YtedajccdbdlaoaaGreatTaxSpec
set_option maxRecDepth 20000
namespace Go.Sx.N
def V_fits : Prop :=
(∀ s0 : Sl,
((Ranged s0 [some .i64, none, none, none, none]) →
((p_fits s0) →
((Small s0) →
((((Sl.len s0) > 30) →
(q_fits s0 (decide False)) ∧ True) ∧
(¬ ((Sl.len s0) > 30) →
(∃ (J1 : Int → Prop) (M1 : Int → Nat), J1 0 ∧
(∀ x2 : Int,
((Rng .i64 x2) →
(J1 x2 →
((Small s0) →
(((x2 < (Sl.len s0)) →
((0 : Int) ≤ x2) ∧
(x2 < (Sl.len s0)) ∧
((0 : Int) ≤ x2) ∧
(x2 < (Sl.len s0)) ∧
((((Ranged (Sl.sub s0 x2 2) [some .u16]) →
((((Small (Sl.sub s0 x2 2)) →
((Ranged (Sl.sub s0 x2 4) [some .u16]) →
((Small (Sl.sub s0 x2 4)) →
(Rng .i64 ((Sl.len (Sl.sub s0 x2 2)) + (Sl.len (Sl.sub s0 x2 4)))) ∧
(((((Sl.len (Sl.sub s0 x2 2)) + (Sl.len (Sl.sub s0 x2 4))) > 600) →
(q_fits s0 (decide False)) ∧ True) ∧
(¬ (((Sl.len (Sl.sub s0 x2 2)) + (Sl.len (Sl.sub s0 x2 4))) > 600) →
(Rng .i64 (x2 + 1)) ∧
(J1 (x2 + 1) ∧ M1 (x2 + 1) < M1 x2))))))) ∧
(((Ranged (Sl.sub s0 x2 4) [some .u16]) →
((((Small (Sl.sub s0 x2 2)) →
((Small (Sl.sub s0 x2 4)) →
(Rng .i64 ((Sl.len (Sl.sub s0 x2 2)) + (Sl.len (Sl.sub s0 x2 4)))) ∧
(((((Sl.len (Sl.sub s0 x2 2)) + (Sl.len (Sl.sub s0 x2 4))) > 600) →
(q_fits s0 (decide False)) ∧ True) ∧
(¬ (((Sl.len (Sl.sub s0 x2 2)) + (Sl.len (Sl.sub s0 x2 4))) > 600) →
(Rng .i64 (x2 + 1)) ∧
(J1 (x2 + 1) ∧ M1 (x2 + 1) < M1 x2)))))) ∧
(((Small (Sl.sub s0 x2 4)) →
((Small (Sl.sub s0 x2 2)) →
(Rng .i64 ((Sl.len (Sl.sub s0 x2 2)) + (Sl.len (Sl.sub s0 x2 4)))) ∧
(((((Sl.len (Sl.sub s0 x2 2)) + (Sl.len (Sl.sub s0 x2 4))) > 600) →
(q_fits s0 (decide False)) ∧ True) ∧
(¬ (((Sl.len (Sl.sub s0 x2 2)) + (Sl.len (Sl.sub s0 x2 4))) > 600) →
(Rng .i64 (x2 + 1)) ∧
(J1 (x2 + 1) ∧ M1 (x2 + 1) < M1 x2)))))))))))) ∧
(((Ranged (Sl.sub s0 x2 4) [some .u16]) →
((((Ranged (Sl.sub s0 x2 2) [some .u16]) →
((((Small (Sl.sub s0 x2 2)) →
((Small (Sl.sub s0 x2 4)) →
(Rng .i64 ((Sl.len (Sl.sub s0 x2 2)) + (Sl.len (Sl.sub s0 x2 4)))) ∧
(((((Sl.len (Sl.sub s0 x2 2)) + (Sl.len (Sl.sub s0 x2 4))) > 600) →
(q_fits s0 (decide False)) ∧ True) ∧
(¬ (((Sl.len (Sl.sub s0 x2 2)) + (Sl.len (Sl.sub s0 x2 4))) > 600) →
(Rng .i64 (x2 + 1)) ∧
(J1 (x2 + 1) ∧ M1 (x2 + 1) < M1 x2)))))) ∧
(((Small (Sl.sub s0 x2 4)) →
((Small (Sl.sub s0 x2 2)) →
(Rng .i64 ((Sl.len (Sl.sub s0 x2 2)) + (Sl.len (Sl.sub s0 x2 4)))) ∧
(((((Sl.len (Sl.sub s0 x2 2)) + (Sl.len (Sl.sub s0 x2 4))) > 600) →
(q_fits s0 (decide False)) ∧ True) ∧
(¬ (((Sl.len (Sl.sub s0 x2 2)) + (Sl.len (Sl.sub s0 x2 4))) > 600) →
(Rng .i64 (x2 + 1)) ∧
(J1 (x2 + 1) ∧ M1 (x2 + 1) < M1 x2))))))))) ∧
(((Small (Sl.sub s0 x2 4)) →
((Ranged (Sl.sub s0 x2 2) [some .u16]) →
((Small (Sl.sub s0 x2 2)) →
(Rng .i64 ((Sl.len (Sl.sub s0 x2 2)) + (Sl.len (Sl.sub s0 x2 4)))) ∧
(((((Sl.len (Sl.sub s0 x2 2)) + (Sl.len (Sl.sub s0 x2 4))) > 600) →
(q_fits s0 (decide False)) ∧ True) ∧
(¬ (((Sl.len (Sl.sub s0 x2 2)) + (Sl.len (Sl.sub s0 x2 4))) > 600) →
(Rng .i64 (x2 + 1)) ∧
(J1 (x2 + 1) ∧ M1 (x2 + 1) < M1 x2)))))))))))) ∧
(¬ (x2 < (Sl.len s0)) →
(q_fits s0 (decide True)) ∧ True)))))))))))))
def V_example : Prop :=
((p_example ) →
(p_rQuick 1 10) ∧
(∀ b0 : Bool,
(∀ s1 : Sl,
((Ranged s1 [some .u16]) →
(∀ b2 : Bool,
(∀ s3 : Sl,
((Ranged s3 [some .u16]) →
((q_rQuick 1 10 (decide (b0 = true)) s1 (decide (b2 = true)) s3) →
(p_rQuick 3 10) ∧
(∀ b4 : Bool,
(∀ s5 : Sl,
((Ranged s5 [some .u16]) →
(∀ b6 : Bool,
(∀ s7 : Sl,
((Ranged s7 [some .u16]) →
((q_rQuick 3 10 (decide (b4 = true)) s5 (decide (b6 = true)) s7) →
(q_example  (Sl.lit [[(.int 1000), (.bool (decide (b0 = true))), (Sl.d s1), (.bool (decide (b2 = true))), (Sl.d s3)], [(.int 2000), (.bool (decide (b4 = true))), (Sl.d s5), (.bool (decide (b6 = true))), (Sl.d s7)]])) ∧ True)))))))))))))))
def V_awake : Prop :=
((p_awake ) →
(p_example ) ∧
(∀ s0 : Sl,
((Ranged s0 [some .i64, none, none, none, none]) →
((q_example  s0) →
(p_tTax s0 2500) ∧
(∀ b1 : Bool,
(∀ s2 : Sl,
((Ranged s2 [some .u16]) →
(∀ b3 : Bool,
(∀ s4 : Sl,
((Ranged s4 [some .u16]) →
(∀ x5 : Int,
((Rng .i64 x5) →
((q_tTax s0 2500 (decide (b1 = true)) s2 (decide (b3 = true)) s4 x5) →
(p_tTax s0 999) ∧
(∀ b6 : Bool,
(∀ s7 : Sl,
((Ranged s7 [some .u16]) →
(∀ b8 : Bool,
(∀ s9 : Sl,
((Ranged s9 [some .u16]) →
(∀ x10 : Int,
((Rng .i64 x10) →
((q_tTax s0 999 (decide (b6 = true)) s7 (decide (b8 = true)) s9 x10) →
(p_tDue s0 6 1250) ∧
(∀ x11 : Int,
((Rng .i64 x11) →
(∀ x12 : Int,
((Rng .i64 x12) →
((q_tDue s0 6 1250 x11 x12) →
(p_tDue s0 1 100) ∧
(∀ x13 : Int,
((Rng .i64 x13) →
(∀ x14 : Int,
((Rng .i64 x14) →
((q_tDue s0 1 100 x13 x14) →
(p_tWithhold (Sl.lit [[(.int 1900), (Sl.d s0)]]) 0 0 0 1 100) ∧
(∀ x15 : Int,
((Rng .i64 x15) →
(∀ x16 : Int,
((Rng .i64 x16) →
(∀ x17 : Int,
((Rng .i64 x17) →
(∀ x18 : Int,
((Rng .i64 x18) →
(∀ x19 : Int,
((Rng .i64 x19) →
((q_tWithhold (Sl.lit [[(.int 1900), (Sl.d s0)]]) 0 0 0 1 100 x15 x16 x17 x18 x19) →
(p_tWithhold (Sl.lit [[(.int 1900), (Sl.d s0)]]) x16 x17 x18 2 500) ∧
(∀ x20 : Int,
((Rng .i64 x20) →
(∀ x21 : Int,
((Rng .i64 x21) →
(∀ x22 : Int,
((Rng .i64 x22) →
(∀ x23 : Int,
((Rng .i64 x23) →
(∀ x24 : Int,
((Rng .i64 x24) →
((q_tWithhold (Sl.lit [[(.int 1900), (Sl.d s0)]]) x16 x17 x18 2 500 x20 x21 x22 x23 x24) →
(Rng .i64 (x5 + x10)) ∧
(Rng .i64 ((x5 + x10) + x12)) ∧
(Rng .i64 (((x5 + x10) + x12) + x14)) ∧
(Rng .i64 ((((x5 + x10) + x12) + x14) + x19)) ∧
(Rng .i64 (((((x5 + x10) + x12) + x14) + x19) + x24)) ∧
((((((((x5 + x10) + x12) + x14) + x19) + x24) = 0) →
(p_rFromInt2 250) ∧
(∀ b25 : Bool,
(∀ s26 : Sl,
((Ranged s26 [some .u16]) →
(∀ b27 : Bool,
(∀ s28 : Sl,
((Ranged s28 [some .u16]) →
((q_rFromInt2 250 (decide (b25 = true)) s26 (decide (b27 = true)) s28) →
(p_kSameFrac (decide (b1 = true)) s2 (decide (b3 = true)) s4 (decide (b25 = true)) s26 (decide (b27 = true)) s28) ∧
(∀ b29 : Bool,
((q_kSameFrac (decide (b1 = true)) s2 (decide (b3 = true)) s4 (decide (b25 = true)) s26 (decide (b27 = true)) s28 (decide (b29 = true))) →
(((b29 = true) →
(p_rFromInt2 0) ∧
(∀ b30 : Bool,
(∀ s31 : Sl,
((Ranged s31 [some .u16]) →
(∀ b32 : Bool,
(∀ s33 : Sl,
((Ranged s33 [some .u16]) →
((q_rFromInt2 0 (decide (b30 = true)) s31 (decide (b32 = true)) s33) →
(p_kSameFrac (decide (b6 = true)) s7 (decide (b8 = true)) s9 (decide (b30 = true)) s31 (decide (b32 = true)) s33) ∧
(∀ b34 : Bool,
((q_kSameFrac (decide (b6 = true)) s7 (decide (b8 = true)) s9 (decide (b30 = true)) s31 (decide (b32 = true)) s33 (decide (b34 = true))) →
(((b34 = true) →
(((x11 = 125) →
(((x13 = 1) →
(((x15 = 0) →
((((x16 = 1) ∧ ((x17 = 100) ∧ (x18 = 0))) →
(((x20 = 55) →
(q_awake  (decide ((x21 = 2) ∧ ((x22 = 600) ∧ (x23 = 55))))) ∧ True) ∧
(¬ (x20 = 55) →
(q_awake  (decide False)) ∧ True))) ∧
(¬ ((x16 = 1) ∧ ((x17 = 100) ∧ (x18 = 0))) →
(q_awake  (decide False)) ∧ True))) ∧
(¬ (x15 = 0) →
(q_awake  (decide False)) ∧ True))) ∧
(¬ (x13 = 1) →
(q_awake  (decide False)) ∧ True))) ∧
(¬ (x11 = 125) →
(q_awake  (decide False)) ∧ True))) ∧
(¬ (b34 = true) →
(q_awake  (decide False)) ∧ True)))))))))))) ∧
(¬ (b29 = true) →
(q_awake  (decide False)) ∧ True)))))))))))) ∧
(¬ ((((((x5 + x10) + x12) + x14) + x19) + x24) = 0) →
(q_awake  (decide False)) ∧ True))))))))))))))))))))))))))))))))))))))))))))))))))))))))
def V_given : Prop :=
(∀ s0 : Sl,
((Ranged s0 [some .i64, none, none, none, none]) →
((p_given s0) →
(∃ (J1 : Sl → Int → Prop) (M1 : Sl → Int → Nat), J1 Sl.nil 0 ∧
(∀ s2 : Sl,
((Ranged s2 [some .i64, none, none, none, none]) →
(∀ x3 : Int,
((Rng .i64 x3) →
(J1 s2 x3 →
((Small s0) →
(((x3 < (Sl.len s0)) →
((0 : Int) ≤ x3) ∧
(x3 < (Sl.len s0)) ∧
((Rng .i64 (Sl.int s0 x3 0)) →
((0 : Int) ≤ x3) ∧
(x3 < (Sl.len s0)) ∧
((Ranged (Sl.sub s0 x3 2) [some .u16]) →
((Ranged (Sl.sub s0 x3 4) [some .u16]) →
(p_kCopyFrac (decide (Sl.bool s0 x3 1 = true)) (Sl.sub s0 x3 2) (decide (Sl.bool s0 x3 3 = true)) (Sl.sub s0 x3 4)) ∧
(∀ b4 : Bool,
(∀ s5 : Sl,
((Ranged s5 [some .u16]) →
(∀ b6 : Bool,
(∀ s7 : Sl,
((Ranged s7 [some .u16]) →
((q_kCopyFrac (decide (Sl.bool s0 x3 1 = true)) (Sl.sub s0 x3 2) (decide (Sl.bool s0 x3 3 = true)) (Sl.sub s0 x3 4) (decide (b4 = true)) s5 (decide (b6 = true)) s7) →
((((Sl.len s2) + (Sl.len (Sl.lit [[(.int (Sl.int s0 x3 0)), (.bool (decide (b4 = true))), (Sl.d s5), (.bool (decide (b6 = true))), (Sl.d s7)]]))) * 72) ≤ 140737488355328) ∧
(Rng .i64 (x3 + 1)) ∧
(J1 (Sl.app s2 (Sl.lit [[(.int (Sl.int s0 x3 0)), (.bool (decide (b4 = true))), (Sl.d s5), (.bool (decide (b6 = true))), (Sl.d s7)]])) (x3 + 1) ∧ M1 (Sl.app s2 (Sl.lit [[(.int (Sl.int s0 x3 0)), (.bool (decide (b4 = true))), (Sl.d s5), (.bool (decide (b6 = true))), (Sl.d s7)]])) (x3 + 1) < M1 s2 x3)))))))))))) ∧
(¬ (x3 < (Sl.len s0)) →
(q_given s0 s2) ∧ True))))))))))))
def V_same : Prop :=
(∀ s0 : Sl,
((Ranged s0 [some .i64, none, none, none, none]) →
(∀ s1 : Sl,
((Ranged s1 [some .i64, none, none, none, none]) →
((p_same s0 s1) →
((Small s0) →
((Small s1) →
((((Sl.len s0) ≠ (Sl.len s1)) →
(q_same s0 s1 (decide False)) ∧ True) ∧
(¬ ((Sl.len s0) ≠ (Sl.len s1)) →
(∃ (J2 : Int → Prop) (M2 : Int → Nat), J2 0 ∧
(∀ x3 : Int,
((Rng .i64 x3) →
(J2 x3 →
((Small s0) →
(((x3 < (Sl.len s0)) →
((0 : Int) ≤ x3) ∧
(x3 < (Sl.len s0)) ∧
((Rng .i64 (Sl.int s0 x3 0)) →
((0 : Int) ≤ x3) ∧
(x3 < (Sl.len s1)) ∧
((Rng .i64 (Sl.int s1 x3 0)) →
((((Sl.int s0 x3 0) ≠ (Sl.int s1 x3 0)) →
(q_same s0 s1 (decide False)) ∧ True) ∧
(¬ ((Sl.int s0 x3 0) ≠ (Sl.int s1 x3 0)) →
((0 : Int) ≤ x3) ∧
(x3 < (Sl.len s0)) ∧
((0 : Int) ≤ x3) ∧
(x3 < (Sl.len s1)) ∧
((((Ranged (Sl.sub s0 x3 2) [some .u16]) →
((Ranged (Sl.sub s0 x3 4) [some .u16]) →
((Ranged (Sl.sub s1 x3 2) [some .u16]) →
((Ranged (Sl.sub s1 x3 4) [some .u16]) →
(p_kSameFrac (decide (Sl.bool s0 x3 1 = true)) (Sl.sub s0 x3 2) (decide (Sl.bool s0 x3 3 = true)) (Sl.sub s0 x3 4) (decide (Sl.bool s1 x3 1 = true)) (Sl.sub s1 x3 2) (decide (Sl.bool s1 x3 3 = true)) (Sl.sub s1 x3 4)) ∧
(∀ b4 : Bool,
((q_kSameFrac (decide (Sl.bool s0 x3 1 = true)) (Sl.sub s0 x3 2) (decide (Sl.bool s0 x3 3 = true)) (Sl.sub s0 x3 4) (decide (Sl.bool s1 x3 1 = true)) (Sl.sub s1 x3 2) (decide (Sl.bool s1 x3 3 = true)) (Sl.sub s1 x3 4) (decide (b4 = true))) →
(((¬ (b4 = true)) →
(q_same s0 s1 (decide False)) ∧ True) ∧
(¬ (¬ (b4 = true)) →
(Rng .i64 (x3 + 1)) ∧
(J2 (x3 + 1) ∧ M2 (x3 + 1) < M2 x3)))))))))) ∧
(((Ranged (Sl.sub s1 x3 2) [some .u16]) →
((Ranged (Sl.sub s1 x3 4) [some .u16]) →
((Ranged (Sl.sub s0 x3 2) [some .u16]) →
((Ranged (Sl.sub s0 x3 4) [some .u16]) →
(p_kSameFrac (decide (Sl.bool s0 x3 1 = true)) (Sl.sub s0 x3 2) (decide (Sl.bool s0 x3 3 = true)) (Sl.sub s0 x3 4) (decide (Sl.bool s1 x3 1 = true)) (Sl.sub s1 x3 2) (decide (Sl.bool s1 x3 3 = true)) (Sl.sub s1 x3 4)) ∧
(∀ b4 : Bool,
((q_kSameFrac (decide (Sl.bool s0 x3 1 = true)) (Sl.sub s0 x3 2) (decide (Sl.bool s0 x3 3 = true)) (Sl.sub s0 x3 4) (decide (Sl.bool s1 x3 1 = true)) (Sl.sub s1 x3 2) (decide (Sl.bool s1 x3 3 = true)) (Sl.sub s1 x3 4) (decide (b4 = true))) →
(((¬ (b4 = true)) →
(q_same s0 s1 (decide False)) ∧ True) ∧
(¬ (¬ (b4 = true)) →
(Rng .i64 (x3 + 1)) ∧
(J2 (x3 + 1) ∧ M2 (x3 + 1) < M2 x3)))))))))))))))) ∧
(¬ (x3 < (Sl.len s0)) →
(q_same s0 s1 (decide True)) ∧ True))))))))))))))))
def V_copied : Prop :=
(∀ s0 : Sl,
((Ranged s0 [some .i64, none, none, none, none]) →
((p_copied s0) →
((Small s0) →
(Rng .i64 ((Sl.len s0) + 2)) ∧
((0 : Int) ≤ 0) ∧
((0 : Int) ≤ ((Sl.len s0) + 2)) ∧
((((Sl.len s0) + 2) * 72) ≤ 140737488355328) ∧
(∃ (J1 : Sl → Int → Prop) (M1 : Sl → Int → Nat), J1 (Sl.rep 0 [(.int 0), (.bool (decide False)), (Sl.d Sl.nil), (.bool (decide False)), (Sl.d Sl.nil)]) 0 ∧
(∀ s2 : Sl,
((Ranged s2 [some .i64, none, none, none, none]) →
(∀ x3 : Int,
((Rng .i64 x3) →
(J1 s2 x3 →
((Small s0) →
(((x3 < (Sl.len s0)) →
((0 : Int) ≤ x3) ∧
(x3 < (Sl.len s0)) ∧
((Rng .i64 (Sl.int s0 x3 0)) →
((0 : Int) ≤ x3) ∧
(x3 < (Sl.len s0)) ∧
((Ranged (Sl.sub s0 x3 2) [some .u16]) →
((Ranged (Sl.sub s0 x3 4) [some .u16]) →
(p_kCopyFrac (decide (Sl.bool s0 x3 1 = true)) (Sl.sub s0 x3 2) (decide (Sl.bool s0 x3 3 = true)) (Sl.sub s0 x3 4)) ∧
(∀ b4 : Bool,
(∀ s5 : Sl,
((Ranged s5 [some .u16]) →
(∀ b6 : Bool,
(∀ s7 : Sl,
((Ranged s7 [some .u16]) →
((q_kCopyFrac (decide (Sl.bool s0 x3 1 = true)) (Sl.sub s0 x3 2) (decide (Sl.bool s0 x3 3 = true)) (Sl.sub s0 x3 4) (decide (b4 = true)) s5 (decide (b6 = true)) s7) →
((((Sl.len s2) + (Sl.len (Sl.lit [[(.int (Sl.int s0 x3 0)), (.bool (decide (b4 = true))), (Sl.d s5), (.bool (decide (b6 = true))), (Sl.d s7)]]))) * 72) ≤ 140737488355328) ∧
(Rng .i64 (x3 + 1)) ∧
(J1 (Sl.app s2 (Sl.lit [[(.int (Sl.int s0 x3 0)), (.bool (decide (b4 = true))), (Sl.d s5), (.bool (decide (b6 = true))), (Sl.d s7)]])) (x3 + 1) ∧ M1 (Sl.app s2 (Sl.lit [[(.int (Sl.int s0 x3 0)), (.bool (decide (b4 = true))), (Sl.d s5), (.bool (decide (b6 = true))), (Sl.d s7)]])) (x3 + 1) < M1 s2 x3)))))))))))) ∧
(¬ (x3 < (Sl.len s0)) →
(q_copied s0 s2) ∧ True)))))))))))))
def V_tells : Prop :=
(∀ s0 : Sl,
((Ranged s0 [some .i64, none, none, none, none]) →
(∀ x1 : Int,
((Rng .i64 x1) →
(∀ x2 : Int,
((Rng .i64 x2) →
((p_tells s0 x1 x2) →
(p_copied s0) ∧
(∀ s3 : Sl,
((Ranged s3 [some .i64, none, none, none, none]) →
((q_copied s0 s3) →
(p_given s0) ∧
(∀ s4 : Sl,
((Ranged s4 [some .i64, none, none, none, none]) →
((q_given s0 s4) →
(p_tTax s3 x2) ∧
(∀ b5 : Bool,
(∀ s6 : Sl,
((Ranged s6 [some .u16]) →
(∀ b7 : Bool,
(∀ s8 : Sl,
((Ranged s8 [some .u16]) →
(∀ x9 : Int,
((Rng .i64 x9) →
((q_tTax s3 x2 (decide (b5 = true)) s6 (decide (b7 = true)) s8 x9) →
(p_xTax s4 x2) ∧
(∀ b10 : Bool,
(∀ s11 : Sl,
((Ranged s11 [some .u16]) →
(∀ b12 : Bool,
(∀ s13 : Sl,
((Ranged s13 [some .u16]) →
(∀ x14 : Int,
((Rng .i64 x14) →
((q_xTax s4 x2 (decide (b10 = true)) s11 (decide (b12 = true)) s13 x14) →
(p_tDue s3 x1 x2) ∧
(∀ x15 : Int,
((Rng .i64 x15) →
(∀ x16 : Int,
((Rng .i64 x16) →
((q_tDue s3 x1 x2 x15 x16) →
(p_xDue s4 x1 x2) ∧
(∀ x17 : Int,
((Rng .i64 x17) →
(∀ x18 : Int,
((Rng .i64 x18) →
((q_xDue s4 x1 x2 x17 x18) →
(p_tValid s3) ∧
(∀ b19 : Bool,
((q_tValid s3 (decide (b19 = true))) →
(p_xValid s4) ∧
(∀ b20 : Bool,
((q_xValid s4 (decide (b20 = true))) →
((((b19 = true) ↔ (b20 = true)) →
(p_kSameFrac (decide (b5 = true)) s6 (decide (b7 = true)) s8 (decide (b10 = true)) s11 (decide (b12 = true)) s13) ∧
(∀ b21 : Bool,
((q_kSameFrac (decide (b5 = true)) s6 (decide (b7 = true)) s8 (decide (b10 = true)) s11 (decide (b12 = true)) s13 (decide (b21 = true))) →
(((b21 = true) →
(((x9 = x14) →
(((x15 = x17) →
(((x16 = x18) →
(p_same s3 s4) ∧
(∀ b22 : Bool,
((q_same s3 s4 (decide (b22 = true))) →
(q_tells s0 x1 x2 (decide (b22 = true))) ∧ True))) ∧
(¬ (x16 = x18) →
(q_tells s0 x1 x2 (decide False)) ∧ True))) ∧
(¬ (x15 = x17) →
(q_tells s0 x1 x2 (decide False)) ∧ True))) ∧
(¬ (x9 = x14) →
(q_tells s0 x1 x2 (decide False)) ∧ True))) ∧
(¬ (b21 = true) →
(q_tells s0 x1 x2 (decide False)) ∧ True))))) ∧
(¬ ((b19 = true) ↔ (b20 = true)) →
(q_tells s0 x1 x2 (decide False)) ∧ True)))))))))))))))))))))))))))))))))))))))))))))))
def V_scales : Prop :=
(∀ s0 : Sl,
((Ranged s0 [some .i64, none]) →
((p_scales s0) →
(∃ (J1 : Sl → Int → Prop) (M1 : Sl → Int → Nat), J1 Sl.nil 0 ∧
(∀ s2 : Sl,
((Ranged s2 [some .i64, none]) →
(∀ x3 : Int,
((Rng .i64 x3) →
(J1 s2 x3 →
((Small s0) →
(((x3 < (Sl.len s0)) →
(((x3 > 30) →
(q_scales s0 Sl.nil (decide False)) ∧ True) ∧
(¬ (x3 > 30) →
((0 : Int) ≤ x3) ∧
(x3 < (Sl.len s0)) ∧
((Ranged (Sl.sub s0 x3 1) [some .i64, none, none, none, none]) →
(p_fits (Sl.sub s0 x3 1)) ∧
(∀ b4 : Bool,
((q_fits (Sl.sub s0 x3 1) (decide (b4 = true))) →
(((¬ (b4 = true)) →
(q_scales s0 Sl.nil (decide False)) ∧ True) ∧
(¬ (¬ (b4 = true)) →
((0 : Int) ≤ x3) ∧
(x3 < (Sl.len s0)) ∧
((Rng .i64 (Sl.int s0 x3 0)) →
((0 : Int) ≤ x3) ∧
(x3 < (Sl.len s0)) ∧
((Ranged (Sl.sub s0 x3 1) [some .i64, none, none, none, none]) →
(p_given (Sl.sub s0 x3 1)) ∧
(∀ s5 : Sl,
((Ranged s5 [some .i64, none, none, none, none]) →
((q_given (Sl.sub s0 x3 1) s5) →
((((Sl.len s2) + (Sl.len (Sl.lit [[(.int (Sl.int s0 x3 0)), (Sl.d s5)]]))) * 32) ≤ 140737488355328) ∧
(Rng .i64 (x3 + 1)) ∧
(J1 (Sl.app s2 (Sl.lit [[(.int (Sl.int s0 x3 0)), (Sl.d s5)]])) (x3 + 1) ∧ M1 (Sl.app s2 (Sl.lit [[(.int (Sl.int s0 x3 0)), (Sl.d s5)]])) (x3 + 1) < M1 s2 x3)))))))))))))) ∧
(¬ (x3 < (Sl.len s0)) →
(q_scales s0 s2 (decide True)) ∧ True))))))))))))
def V_withholds : Prop :=
(∀ s0 : Sl,
((Ranged s0 [some .i64, none]) →
(∀ s1 : Sl,
((Ranged s1 [some .i64, none]) →
(∀ x2 : Int,
((Rng .i64 x2) →
(∀ x3 : Int,
((Rng .i64 x3) →
(∀ x4 : Int,
((Rng .i64 x4) →
(∀ s5 : Sl,
((Ranged s5 [some .i64, some .i64]) →
((p_withholds s0 s1 x2 x3 x4 s5) →
(∃ (J6 : Int → Int → Int → Int → Int → Int → Int → Prop) (M6 : Int → Int → Int → Int → Int → Int → Int → Nat), J6 0 x2 x3 x4 x2 x3 x4 ∧
(∀ x7 : Int,
((Rng .i64 x7) →
(∀ x8 : Int,
((Rng .i64 x8) →
(∀ x9 : Int,
((Rng .i64 x9) →
(∀ x10 : Int,
((Rng .i64 x10) →
(∀ x11 : Int,
((Rng .i64 x11) →
(∀ x12 : Int,
((Rng .i64 x12) →
(∀ x13 : Int,
((Rng .i64 x13) →
(J6 x7 x8 x9 x10 x11 x12 x13 →
((Small s5) →
(((x7 < (Sl.len s5)) →
((0 : Int) ≤ x7) ∧
(x7 < (Sl.len s5)) ∧
((Rng .i64 (Sl.int s5 x7 0)) →
((0 : Int) ≤ x7) ∧
(x7 < (Sl.len s5)) ∧
((Rng .i64 (Sl.int s5 x7 1)) →
(((p_tWithhold s0 x8 x9 x10 (IntKind.wrap .i64 (x8 + (Sl.int s5 x7 0))) (Sl.int s5 x7 1)) ∧
(∀ x14 : Int,
((Rng .i64 x14) →
(∀ x15 : Int,
((Rng .i64 x15) →
(∀ x16 : Int,
((Rng .i64 x16) →
(∀ x17 : Int,
((Rng .i64 x17) →
(∀ x18 : Int,
((Rng .i64 x18) →
((q_tWithhold s0 x8 x9 x10 (IntKind.wrap .i64 (x8 + (Sl.int s5 x7 0))) (Sl.int s5 x7 1) x14 x15 x16 x17 x18) →
((0 : Int) ≤ x7) ∧
(x7 < (Sl.len s5)) ∧
((Rng .i64 (Sl.int s5 x7 0)) →
((0 : Int) ≤ x7) ∧
(x7 < (Sl.len s5)) ∧
((Rng .i64 (Sl.int s5 x7 1)) →
(((p_xWithhold s1 x11 x12 x13 (IntKind.wrap .i64 (x11 + (Sl.int s5 x7 0))) (Sl.int s5 x7 1)) ∧
(∀ x19 : Int,
((Rng .i64 x19) →
(∀ x20 : Int,
((Rng .i64 x20) →
(∀ x21 : Int,
((Rng .i64 x21) →
(∀ x22 : Int,
((Rng .i64 x22) →
(∀ x23 : Int,
((Rng .i64 x23) →
((q_xWithhold s1 x11 x12 x13 (IntKind.wrap .i64 (x11 + (Sl.int s5 x7 0))) (Sl.int s5 x7 1) x19 x20 x21 x22 x23) →
(((x14 ≠ x19) →
(q_withholds s0 s1 x2 x3 x4 s5 (decide False)) ∧ True) ∧
(¬ (x14 ≠ x19) →
(((x18 ≠ x23) →
(q_withholds s0 s1 x2 x3 x4 s5 (decide False)) ∧ True) ∧
(¬ (x18 ≠ x23) →
(((x15 ≠ x20) →
(q_withholds s0 s1 x2 x3 x4 s5 (decide False)) ∧ True) ∧
(¬ (x15 ≠ x20) →
(((x16 ≠ x21) →
(q_withholds s0 s1 x2 x3 x4 s5 (decide False)) ∧ True) ∧
(¬ (x16 ≠ x21) →
(((x17 ≠ x22) →
(q_withholds s0 s1 x2 x3 x4 s5 (decide False)) ∧ True) ∧
(¬ (x17 ≠ x22) →
(((x18 = 0) →
(J6 (IntKind.wrap .i64 (x7 + 1)) x15 x16 x17 x20 x21 x22 ∧ M6 (IntKind.wrap .i64 (x7 + 1)) x15 x16 x17 x20 x21 x22 < M6 x7 x8 x9 x10 x11 x12 x13)) ∧
(¬ (x18 = 0) →
(J6 (IntKind.wrap .i64 (x7 + 1)) x8 x9 x10 x11 x12 x13 ∧ M6 (IntKind.wrap .i64 (x7 + 1)) x8 x9 x10 x11 x12 x13 < M6 x7 x8 x9 x10 x11 x12 x13))))))))))))))))))))))))) ∧
((p_xWithhold s1 x11 x12 x13 (IntKind.wrap .i64 (x11 + (Sl.int s5 x7 0))) (Sl.int s5 x7 1)) ∧
(∀ x19 : Int,
((Rng .i64 x19) →
(∀ x20 : Int,
((Rng .i64 x20) →
(∀ x21 : Int,
((Rng .i64 x21) →
(∀ x22 : Int,
((Rng .i64 x22) →
(∀ x23 : Int,
((Rng .i64 x23) →
((q_xWithhold s1 x11 x12 x13 (IntKind.wrap .i64 (x11 + (Sl.int s5 x7 0))) (Sl.int s5 x7 1) x19 x20 x21 x22 x23) →
(((x14 ≠ x19) →
(q_withholds s0 s1 x2 x3 x4 s5 (decide False)) ∧ True) ∧
(¬ (x14 ≠ x19) →
(((x18 ≠ x23) →
(q_withholds s0 s1 x2 x3 x4 s5 (decide False)) ∧ True) ∧
(¬ (x18 ≠ x23) →
(((x15 ≠ x20) →
(q_withholds s0 s1 x2 x3 x4 s5 (decide False)) ∧ True) ∧
(¬ (x15 ≠ x20) →
(((x16 ≠ x21) →
(q_withholds s0 s1 x2 x3 x4 s5 (decide False)) ∧ True) ∧
(¬ (x16 ≠ x21) →
(((x17 ≠ x22) →
(q_withholds s0 s1 x2 x3 x4 s5 (decide False)) ∧ True) ∧
(¬ (x17 ≠ x22) →
(((x18 = 0) →
(J6 (IntKind.wrap .i64 (x7 + 1)) x15 x16 x17 x20 x21 x22 ∧ M6 (IntKind.wrap .i64 (x7 + 1)) x15 x16 x17 x20 x21 x22 < M6 x7 x8 x9 x10 x11 x12 x13)) ∧
(¬ (x18 = 0) →
(J6 (IntKind.wrap .i64 (x7 + 1)) x8 x9 x10 x11 x12 x13 ∧ M6 (IntKind.wrap .i64 (x7 + 1)) x8 x9 x10 x11 x12 x13 < M6 x7 x8 x9 x10 x11 x12 x13)))))))))))))))))))))))))))))))))))))))) ∧
((p_tWithhold s0 x8 x9 x10 (IntKind.wrap .i64 (x8 + (Sl.int s5 x7 0))) (Sl.int s5 x7 1)) ∧
(∀ x14 : Int,
((Rng .i64 x14) →
(∀ x15 : Int,
((Rng .i64 x15) →
(∀ x16 : Int,
((Rng .i64 x16) →
(∀ x17 : Int,
((Rng .i64 x17) →
(∀ x18 : Int,
((Rng .i64 x18) →
((q_tWithhold s0 x8 x9 x10 (IntKind.wrap .i64 (x8 + (Sl.int s5 x7 0))) (Sl.int s5 x7 1) x14 x15 x16 x17 x18) →
((0 : Int) ≤ x7) ∧
(x7 < (Sl.len s5)) ∧
((Rng .i64 (Sl.int s5 x7 0)) →
((0 : Int) ≤ x7) ∧
(x7 < (Sl.len s5)) ∧
((Rng .i64 (Sl.int s5 x7 1)) →
(((p_xWithhold s1 x11 x12 x13 (IntKind.wrap .i64 (x11 + (Sl.int s5 x7 0))) (Sl.int s5 x7 1)) ∧
(∀ x19 : Int,
((Rng .i64 x19) →
(∀ x20 : Int,
((Rng .i64 x20) →
(∀ x21 : Int,
((Rng .i64 x21) →
(∀ x22 : Int,
((Rng .i64 x22) →
(∀ x23 : Int,
((Rng .i64 x23) →
((q_xWithhold s1 x11 x12 x13 (IntKind.wrap .i64 (x11 + (Sl.int s5 x7 0))) (Sl.int s5 x7 1) x19 x20 x21 x22 x23) →
(((x14 ≠ x19) →
(q_withholds s0 s1 x2 x3 x4 s5 (decide False)) ∧ True) ∧
(¬ (x14 ≠ x19) →
(((x18 ≠ x23) →
(q_withholds s0 s1 x2 x3 x4 s5 (decide False)) ∧ True) ∧
(¬ (x18 ≠ x23) →
(((x15 ≠ x20) →
(q_withholds s0 s1 x2 x3 x4 s5 (decide False)) ∧ True) ∧
(¬ (x15 ≠ x20) →
(((x16 ≠ x21) →
(q_withholds s0 s1 x2 x3 x4 s5 (decide False)) ∧ True) ∧
(¬ (x16 ≠ x21) →
(((x17 ≠ x22) →
(q_withholds s0 s1 x2 x3 x4 s5 (decide False)) ∧ True) ∧
(¬ (x17 ≠ x22) →
(((x18 = 0) →
(J6 (IntKind.wrap .i64 (x7 + 1)) x15 x16 x17 x20 x21 x22 ∧ M6 (IntKind.wrap .i64 (x7 + 1)) x15 x16 x17 x20 x21 x22 < M6 x7 x8 x9 x10 x11 x12 x13)) ∧
(¬ (x18 = 0) →
(J6 (IntKind.wrap .i64 (x7 + 1)) x8 x9 x10 x11 x12 x13 ∧ M6 (IntKind.wrap .i64 (x7 + 1)) x8 x9 x10 x11 x12 x13 < M6 x7 x8 x9 x10 x11 x12 x13))))))))))))))))))))))))) ∧
((p_xWithhold s1 x11 x12 x13 (IntKind.wrap .i64 (x11 + (Sl.int s5 x7 0))) (Sl.int s5 x7 1)) ∧
(∀ x19 : Int,
((Rng .i64 x19) →
(∀ x20 : Int,
((Rng .i64 x20) →
(∀ x21 : Int,
((Rng .i64 x21) →
(∀ x22 : Int,
((Rng .i64 x22) →
(∀ x23 : Int,
((Rng .i64 x23) →
((q_xWithhold s1 x11 x12 x13 (IntKind.wrap .i64 (x11 + (Sl.int s5 x7 0))) (Sl.int s5 x7 1) x19 x20 x21 x22 x23) →
(((x14 ≠ x19) →
(q_withholds s0 s1 x2 x3 x4 s5 (decide False)) ∧ True) ∧
(¬ (x14 ≠ x19) →
(((x18 ≠ x23) →
(q_withholds s0 s1 x2 x3 x4 s5 (decide False)) ∧ True) ∧
(¬ (x18 ≠ x23) →
(((x15 ≠ x20) →
(q_withholds s0 s1 x2 x3 x4 s5 (decide False)) ∧ True) ∧
(¬ (x15 ≠ x20) →
(((x16 ≠ x21) →
(q_withholds s0 s1 x2 x3 x4 s5 (decide False)) ∧ True) ∧
(¬ (x16 ≠ x21) →
(((x17 ≠ x22) →
(q_withholds s0 s1 x2 x3 x4 s5 (decide False)) ∧ True) ∧
(¬ (x17 ≠ x22) →
(((x18 = 0) →
(J6 (IntKind.wrap .i64 (x7 + 1)) x15 x16 x17 x20 x21 x22 ∧ M6 (IntKind.wrap .i64 (x7 + 1)) x15 x16 x17 x20 x21 x22 < M6 x7 x8 x9 x10 x11 x12 x13)) ∧
(¬ (x18 = 0) →
(J6 (IntKind.wrap .i64 (x7 + 1)) x8 x9 x10 x11 x12 x13 ∧ M6 (IntKind.wrap .i64 (x7 + 1)) x8 x9 x10 x11 x12 x13 < M6 x7 x8 x9 x10 x11 x12 x13)))))))))))))))))))))))))))))))))))))))))))) ∧
(¬ (x7 < (Sl.len s5)) →
(q_withholds s0 s1 x2 x3 x4 s5 (decide True)) ∧ True))))))))))))))))))))))))))))))))
def V_below : Prop :=
(∀ b0 : Bool,
(∀ s1 : Sl,
((Ranged s1 [some .u16]) →
(∀ b2 : Bool,
(∀ s3 : Sl,
((Ranged s3 [some .u16]) →
((p_below (decide (b0 = true)) s1 (decide (b2 = true)) s3) →
(p_fFloor (decide (b0 = true)) s1 (decide (b2 = true)) s3) ∧
(∀ b4 : Bool,
(∀ s5 : Sl,
((Ranged s5 [some .u16]) →
(∀ x6 : Int,
((Rng .i64 x6) →
((q_fFloor (decide (b0 = true)) s1 (decide (b2 = true)) s3 (decide (b4 = true)) s5 x6) →
(p_fFromInt 1) ∧
(∀ b7 : Bool,
(∀ s8 : Sl,
((Ranged s8 [some .u16]) →
(∀ b9 : Bool,
(∀ s10 : Sl,
((Ranged s10 [some .u16]) →
((q_fFromInt 1 (decide (b7 = true)) s8 (decide (b9 = true)) s10) →
(p_fInt (decide (b4 = true)) s5 (decide (b7 = true)) s8) ∧
(∀ x11 : Int,
((Rng .i64 x11) →
(∀ x12 : Int,
((Rng .i64 x12) →
((q_fInt (decide (b4 = true)) s5 (decide (b7 = true)) s8 x11 x12) →
(((x6 ≠ 0) →
(q_below (decide (b0 = true)) s1 (decide (b2 = true)) s3 (-1)) ∧ True) ∧
(¬ (x6 ≠ 0) →
(((x12 ≠ 0) →
(q_below (decide (b0 = true)) s1 (decide (b2 = true)) s3 (-1)) ∧ True) ∧
(¬ (x12 ≠ 0) →
(q_below (decide (b0 = true)) s1 (decide (b2 = true)) s3 x11) ∧ True)))))))))))))))))))))))))))))
end Go.Sx.N
