/-
  The conditions of the functions. Conditions: none; printed by a program of our own.
-/
import Derived.Test.YtljmbenpkbjmmaaGreatRecSpec
set_option maxRecDepth 20000
namespace Go.Sx.N
def V_kWhole : Prop :=
(∀ x0 : Int,
((Rng .i64 x0) →
((p_kWhole x0) →
(∃ J1 : Int → Prop,
(((((x0 < 0) → J1 (IntKind.wrap .u64 (0 - (IntKind.wrap .u64 x0)))) ∧
(¬ (x0 < 0) → J1 (IntKind.wrap .u64 x0)))) ∧
((∀ x2 : Int,
((Rng .u64 x2) →
(J1 x2 →
(∃ (J3 : Int → Bool → Sl → Prop) (M3 : Int → Bool → Sl → Nat), J3 x2 (decide (x0 < 0)) Sl.nil ∧
(∀ x4 : Int,
((Rng .u64 x4) →
(∀ b5 : Bool,
(∀ s6 : Sl,
((Ranged s6 [some .u16]) →
(J3 x4 (decide (b5 = true)) s6 →
(((x4 > 0) →
((((Sl.len s6) + (Sl.len (Sl.lit [[(.int (IntKind.wrap .u16 x4))]]))) * 2) ≤ 140737488355328) ∧
((0 : Int) ≤ 16) ∧
(Rng .u64 (shr .u64 x4 16)) ∧
(J3 (shr .u64 x4 16) (decide (b5 = true)) (Sl.app s6 (Sl.lit [[(.int (IntKind.wrap .u16 x4))]])) ∧ M3 (shr .u64 x4 16) (decide (b5 = true)) (Sl.app s6 (Sl.lit [[(.int (IntKind.wrap .u16 x4))]])) < M3 x4 (decide (b5 = true)) s6)) ∧
(¬ (x4 > 0) →
(q_kWhole x0 (decide (b5 = true)) s6) ∧ True))))))))))))))))))
def V_kFrac : Prop :=
(∀ x0 : Int,
((Rng .i64 x0) →
(∀ x1 : Int,
((Rng .i64 x1) →
((p_kFrac x0 x1) →
(((x1 < 1) →
(p_kWhole 1) ∧
(∀ b2 : Bool,
(∀ s3 : Sl,
((Ranged s3 [some .u16]) →
((q_kWhole 1 (decide (b2 = true)) s3) →
(q_kFrac x0 x1 (decide False) Sl.nil (decide (b2 = true)) s3) ∧ True))))) ∧
(¬ (x1 < 1) →
(((x0 = 0) →
(p_kWhole 1) ∧
(∀ b2 : Bool,
(∀ s3 : Sl,
((Ranged s3 [some .u16]) →
((q_kWhole 1 (decide (b2 = true)) s3) →
(q_kFrac x0 x1 (decide False) Sl.nil (decide (b2 = true)) s3) ∧ True))))) ∧
(¬ (x0 = 0) →
(∃ J2 : Int → Prop,
(((((x0 < 0) → J2 (IntKind.wrap .u64 (0 - (IntKind.wrap .u64 x0)))) ∧
(¬ (x0 < 0) → J2 (IntKind.wrap .u64 x0)))) ∧
((∀ x3 : Int,
((Rng .u64 x3) →
(J2 x3 →
(∃ (J4 : Int → Int → Prop) (M4 : Int → Int → Nat), J4 x3 (IntKind.wrap .u64 x1) ∧
(∀ x5 : Int,
((Rng .u64 x5) →
(∀ x6 : Int,
((Rng .u64 x6) →
(J4 x5 x6 →
(((x6 > 0) →
(x6 ≠ 0) ∧
(Rng .u64 (Int.tmod x5 x6)) ∧
(J4 x6 (Int.tmod x5 x6) ∧ M4 x6 (Int.tmod x5 x6) < M4 x5 x6)) ∧
(¬ (x6 > 0) →
((IntKind.wrap .i64 x5) ≠ 0) ∧
(Rng .i64 (Int.tdiv x0 (IntKind.wrap .i64 x5))) ∧
((IntKind.wrap .i64 x5) ≠ 0) ∧
(Rng .i64 (Int.tdiv x1 (IntKind.wrap .i64 x5))) ∧
(p_kWhole (Int.tdiv x0 (IntKind.wrap .i64 x5))) ∧
(∀ b7 : Bool,
(∀ s8 : Sl,
((Ranged s8 [some .u16]) →
((q_kWhole (Int.tdiv x0 (IntKind.wrap .i64 x5)) (decide (b7 = true)) s8) →
(p_kWhole (Int.tdiv x1 (IntKind.wrap .i64 x5))) ∧
(∀ b9 : Bool,
(∀ s10 : Sl,
((Ranged s10 [some .u16]) →
((q_kWhole (Int.tdiv x1 (IntKind.wrap .i64 x5)) (decide (b9 = true)) s10) →
(q_kFrac x0 x1 (decide (b7 = true)) s8 (decide (b9 = true)) s10) ∧ True)))))))))))))))))))))))))))))))
def V_rMul2 : Prop :=
(∀ b0 : Bool,
(∀ s1 : Sl,
((Ranged s1 [some .u16]) →
(∀ b2 : Bool,
(∀ s3 : Sl,
((Ranged s3 [some .u16]) →
(∀ b4 : Bool,
(∀ s5 : Sl,
((Ranged s5 [some .u16]) →
(∀ b6 : Bool,
(∀ s7 : Sl,
((Ranged s7 [some .u16]) →
((p_rMul2 (decide (b0 = true)) s1 (decide (b2 = true)) s3 (decide (b4 = true)) s5 (decide (b6 = true)) s7) →
(p_rValid2 (decide (b0 = true)) s1 (decide (b2 = true)) s3) ∧
(∀ b8 : Bool,
((q_rValid2 (decide (b0 = true)) s1 (decide (b2 = true)) s3 (decide (b8 = true))) →
(((¬ (b8 = true)) →
(q_rMul2 (decide (b0 = true)) s1 (decide (b2 = true)) s3 (decide (b4 = true)) s5 (decide (b6 = true)) s7 (decide False) Sl.nil (decide False) Sl.nil 2) ∧ True) ∧
(¬ (¬ (b8 = true)) →
(p_rValid2 (decide (b4 = true)) s5 (decide (b6 = true)) s7) ∧
(∀ b9 : Bool,
((q_rValid2 (decide (b4 = true)) s5 (decide (b6 = true)) s7 (decide (b9 = true))) →
(((¬ (b9 = true)) →
(q_rMul2 (decide (b0 = true)) s1 (decide (b2 = true)) s3 (decide (b4 = true)) s5 (decide (b6 = true)) s7 (decide False) Sl.nil (decide False) Sl.nil 2) ∧ True) ∧
(¬ (¬ (b9 = true)) →
(p_rTimes2 (decide (b0 = true)) s1 (decide (b2 = true)) s3 (decide (b4 = true)) s5 (decide (b6 = true)) s7) ∧
(∀ b10 : Bool,
(∀ s11 : Sl,
((Ranged s11 [some .u16]) →
(∀ b12 : Bool,
(∀ s13 : Sl,
((Ranged s13 [some .u16]) →
((q_rTimes2 (decide (b0 = true)) s1 (decide (b2 = true)) s3 (decide (b4 = true)) s5 (decide (b6 = true)) s7 (decide (b10 = true)) s11 (decide (b12 = true)) s13) →
(p_rFits (decide (b10 = true)) s11 (decide (b12 = true)) s13) ∧
(∀ b14 : Bool,
((q_rFits (decide (b10 = true)) s11 (decide (b12 = true)) s13 (decide (b14 = true))) →
(((¬ (b14 = true)) →
(q_rMul2 (decide (b0 = true)) s1 (decide (b2 = true)) s3 (decide (b4 = true)) s5 (decide (b6 = true)) s7 (decide False) Sl.nil (decide False) Sl.nil 3) ∧ True) ∧
(¬ (¬ (b14 = true)) →
(q_rMul2 (decide (b0 = true)) s1 (decide (b2 = true)) s3 (decide (b4 = true)) s5 (decide (b6 = true)) s7 (decide (b10 = true)) s11 (decide (b12 = true)) s13 0) ∧ True))))))))))))))))))))))))))))))))
def V_isShare : Prop :=
(∀ b0 : Bool,
(∀ s1 : Sl,
((Ranged s1 [some .u16]) →
(∀ b2 : Bool,
(∀ s3 : Sl,
((Ranged s3 [some .u16]) →
((p_isShare (decide (b0 = true)) s1 (decide (b2 = true)) s3) →
(p_fValid (decide (b0 = true)) s1 (decide (b2 = true)) s3) ∧
(∀ b4 : Bool,
((q_fValid (decide (b0 = true)) s1 (decide (b2 = true)) s3 (decide (b4 = true))) →
(((b4 = true) →
(((¬ (b0 = true)) →
(p_fFromInt 1) ∧
(∀ b5 : Bool,
(∀ s6 : Sl,
((Ranged s6 [some .u16]) →
(∀ b7 : Bool,
(∀ s8 : Sl,
((Ranged s8 [some .u16]) →
((q_fFromInt 1 (decide (b5 = true)) s6 (decide (b7 = true)) s8) →
(p_fCmp (decide (b0 = true)) s1 (decide (b2 = true)) s3 (decide (b5 = true)) s6 (decide (b7 = true)) s8) ∧
(∀ x9 : Int,
((Rng .i64 x9) →
((q_fCmp (decide (b0 = true)) s1 (decide (b2 = true)) s3 (decide (b5 = true)) s6 (decide (b7 = true)) s8 x9) →
(q_isShare (decide (b0 = true)) s1 (decide (b2 = true)) s3 (decide (x9 ≤ 0))) ∧ True))))))))))) ∧
(¬ (¬ (b0 = true)) →
(q_isShare (decide (b0 = true)) s1 (decide (b2 = true)) s3 (decide False)) ∧ True))) ∧
(¬ (b4 = true) →
(q_isShare (decide (b0 = true)) s1 (decide (b2 = true)) s3 (decide False)) ∧ True)))))))))))
def V_limit : Prop :=
(∀ x0 : Int,
((Rng .i64 x0) →
(∀ s1 : Sl,
((Ranged s1 [some .i64]) →
(∀ s2 : Sl,
((Ranged s2 [some .i64, some .i64, some .u8, some .i64]) →
(∀ x3 : Int,
((Rng .i64 x3) →
(∀ b4 : Bool,
(∀ s5 : Sl,
((Ranged s5 [some .u16]) →
(∀ b6 : Bool,
(∀ s7 : Sl,
((Ranged s7 [some .u16]) →
((p_limit x0 s1 s2 x3 (decide (b4 = true)) s5 (decide (b6 = true)) s7) →
(((x3 < x0) →
(q_limit x0 s1 s2 x3 (decide (b4 = true)) s5 (decide (b6 = true)) s7 0 6) ∧ True) ∧
(¬ (x3 < x0) →
((Small s1) →
(Rng .i64 (x0 + (Sl.len s1))) ∧
(((x3 ≥ (x0 + (Sl.len s1))) →
(q_limit x0 s1 s2 x3 (decide (b4 = true)) s5 (decide (b6 = true)) s7 0 6) ∧ True) ∧
(¬ (x3 ≥ (x0 + (Sl.len s1))) →
(Rng .i64 (x3 - x0)) ∧
((0 : Int) ≤ (x3 - x0)) ∧
((x3 - x0) < (Sl.len s1)) ∧
((Rng .i64 (Sl.int s1 (x3 - x0) 0)) →
(p_fFromInt (Sl.int s1 (x3 - x0) 0)) ∧
(∀ b8 : Bool,
(∀ s9 : Sl,
((Ranged s9 [some .u16]) →
(∀ b10 : Bool,
(∀ s11 : Sl,
((Ranged s11 [some .u16]) →
((q_fFromInt (Sl.int s1 (x3 - x0) 0) (decide (b8 = true)) s9 (decide (b10 = true)) s11) →
(p_fMul (decide (b4 = true)) s5 (decide (b6 = true)) s7 (decide (b8 = true)) s9 (decide (b10 = true)) s11) ∧
(∀ b12 : Bool,
(∀ s13 : Sl,
((Ranged s13 [some .u16]) →
(∀ b14 : Bool,
(∀ s15 : Sl,
((Ranged s15 [some .u16]) →
(∀ x16 : Int,
((Rng .i64 x16) →
((q_fMul (decide (b4 = true)) s5 (decide (b6 = true)) s7 (decide (b8 = true)) s9 (decide (b10 = true)) s11 (decide (b12 = true)) s13 (decide (b14 = true)) s15 x16) →
(((x16 ≠ 0) →
(q_limit x0 s1 s2 x3 (decide (b4 = true)) s5 (decide (b6 = true)) s7 0 x16) ∧ True) ∧
(¬ (x16 ≠ 0) →
(p_fFromInt 1) ∧
(∀ b17 : Bool,
(∀ s18 : Sl,
((Ranged s18 [some .u16]) →
(∀ b19 : Bool,
(∀ s20 : Sl,
((Ranged s20 [some .u16]) →
((q_fFromInt 1 (decide (b17 = true)) s18 (decide (b19 = true)) s20) →
(p_fRound (decide (b12 = true)) s13 (decide (b14 = true)) s15 (decide (b17 = true)) s18 (decide (b19 = true)) s20 3) ∧
(∀ b21 : Bool,
(∀ s22 : Sl,
((Ranged s22 [some .u16]) →
(∀ b23 : Bool,
(∀ s24 : Sl,
((Ranged s24 [some .u16]) →
(∀ x25 : Int,
((Rng .i64 x25) →
((q_fRound (decide (b12 = true)) s13 (decide (b14 = true)) s15 (decide (b17 = true)) s18 (decide (b19 = true)) s20 3 (decide (b21 = true)) s22 (decide (b23 = true)) s24 x25) →
(((x25 ≠ 0) →
(q_limit x0 s1 s2 x3 (decide (b4 = true)) s5 (decide (b6 = true)) s7 0 x25) ∧ True) ∧
(¬ (x25 ≠ 0) →
(p_fInt (decide (b21 = true)) s22 (decide (b23 = true)) s24) ∧
(∀ x26 : Int,
((Rng .i64 x26) →
(∀ x27 : Int,
((Rng .i64 x27) →
((q_fInt (decide (b21 = true)) s22 (decide (b23 = true)) s24 x26 x27) →
(q_limit x0 s1 s2 x3 (decide (b4 = true)) s5 (decide (b6 = true)) s7 x26 x27) ∧ True))))))))))))))))))))))))))))))))))))))))))))))))))))))))))))))
def V_Limit : Prop :=
(∀ x0 : Int,
((Rng .i64 x0) →
(∀ s1 : Sl,
((Ranged s1 [some .i64]) →
(∀ s2 : Sl,
((Ranged s2 [some .i64, some .i64, some .u8, some .i64]) →
(∀ x3 : Int,
((Rng .i64 x3) →
(∀ b4 : Bool,
(∀ s5 : Sl,
((Ranged s5 [some .u16]) →
(∀ b6 : Bool,
(∀ s7 : Sl,
((Ranged s7 [some .u16]) →
((p_Limit x0 s1 s2 x3 (decide (b4 = true)) s5 (decide (b6 = true)) s7) →
(p_Valid x0 s1 s2) ∧
(∀ b8 : Bool,
((q_Valid x0 s1 s2 (decide (b8 = true))) →
(((¬ (b8 = true)) →
(q_Limit x0 s1 s2 x3 (decide (b4 = true)) s5 (decide (b6 = true)) s7 0 2) ∧ True) ∧
(¬ (¬ (b8 = true)) →
(p_isShare (decide (b4 = true)) s5 (decide (b6 = true)) s7) ∧
(∀ b9 : Bool,
((q_isShare (decide (b4 = true)) s5 (decide (b6 = true)) s7 (decide (b9 = true))) →
(((¬ (b9 = true)) →
(q_Limit x0 s1 s2 x3 (decide (b4 = true)) s5 (decide (b6 = true)) s7 0 2) ∧ True) ∧
(¬ (¬ (b9 = true)) →
(p_limit x0 s1 s2 x3 (decide (b4 = true)) s5 (decide (b6 = true)) s7) ∧
(∀ x10 : Int,
((Rng .i64 x10) →
(∀ x11 : Int,
((Rng .i64 x11) →
((q_limit x0 s1 s2 x3 (decide (b4 = true)) s5 (decide (b6 = true)) s7 x10 x11) →
(q_Limit x0 s1 s2 x3 (decide (b4 = true)) s5 (decide (b6 = true)) s7 x10 x11) ∧ True))))))))))))))))))))))))))))
def V_outstanding : Prop :=
(∀ x0 : Int,
((Rng .i64 x0) →
(∀ s1 : Sl,
(∀ s2 : Sl,
(∀ x3 : Int,
((Rng .i64 x3) →
((p_outstanding x0 s1 s2 x3) →
((Small s1) →
((0 : Int) ≤ (Sl.len s1)) ∧
((Sl.len s1) ≤ (Sl.len s1)) ∧
(((Sl.len s1) * 8) ≤ 140737488355328) ∧
((Small s1) →
(∃ (J4 : Int → Sl → Prop) (M4 : Int → Sl → Nat), J4 0 (Sl.rep (Sl.len s1) [(.int 0)]) ∧
(∀ x5 : Int,
((Rng .i64 x5) →
(∀ s6 : Sl,
(J4 x5 s6 →
(((x5 < (Sl.len s1)) →
((0 : Int) ≤ x5) ∧
(x5 < (Sl.len s1)) ∧
((Rng .i64 (Sl.int s1 x5 0)) →
(Rng .i64 (0 - (Sl.int s1 x5 0))) ∧
((0 : Int) ≤ x5) ∧
(x5 < (Sl.len s6)) ∧
(Rng .i64 (x5 + 1)) ∧
(J4 (x5 + 1) (Sl.upd s6 x5 0 [(.int (0 - (Sl.int s1 x5 0)))]) ∧ M4 (x5 + 1) (Sl.upd s6 x5 0 [(.int (0 - (Sl.int s1 x5 0)))]) < M4 x5 s6))) ∧
(¬ (x5 < (Sl.len s1)) →
((Small s2) →
(∃ (J7 : Int → Sl → Prop) (M7 : Int → Sl → Nat), J7 0 s6 ∧
(∀ x8 : Int,
((Rng .i64 x8) →
(∀ s9 : Sl,
(J7 x8 s9 →
(((x8 < (Sl.len s2)) →
((0 : Int) ≤ x8) ∧
(x8 < (Sl.len s2)) ∧
((Rng .i64 (Sl.int s2 x8 0)) →
((Rng .i64 (Sl.int s2 x8 1)) →
((Rng .u8 (Sl.int s2 x8 2)) →
((Rng .i64 (Sl.int s2 x8 3)) →
((((Sl.int s2 x8 2) ≠ 3) →
(Rng .i64 ((Sl.int s2 x8 1) - x0)) ∧
((0 : Int) ≤ ((Sl.int s2 x8 1) - x0)) ∧
(((Sl.int s2 x8 1) - x0) < (Sl.len s9)) ∧
((Rng .i64 (Sl.int s9 ((Sl.int s2 x8 1) - x0) 0)) →
(Rng .i64 ((Sl.int s9 ((Sl.int s2 x8 1) - x0) 0) + (Sl.int s2 x8 3))) ∧
((0 : Int) ≤ ((Sl.int s2 x8 1) - x0)) ∧
(((Sl.int s2 x8 1) - x0) < (Sl.len s9)) ∧
(Rng .i64 (x8 + 1)) ∧
(J7 (x8 + 1) (Sl.upd s9 ((Sl.int s2 x8 1) - x0) 0 [(.int ((Sl.int s9 ((Sl.int s2 x8 1) - x0) 0) + (Sl.int s2 x8 3)))]) ∧ M7 (x8 + 1) (Sl.upd s9 ((Sl.int s2 x8 1) - x0) 0 [(.int ((Sl.int s9 ((Sl.int s2 x8 1) - x0) 0) + (Sl.int s2 x8 3)))]) < M7 x8 s9))) ∧
(¬ ((Sl.int s2 x8 2) ≠ 3) →
(Rng .i64 (x8 + 1)) ∧
(J7 (x8 + 1) s9 ∧ M7 (x8 + 1) s9 < M7 x8 s9)))))))) ∧
(¬ (x8 < (Sl.len s2)) →
((Small s9) →
(∃ (J10 : Int → Int → Prop) (M10 : Int → Int → Nat), J10 0 0 ∧
(∀ x11 : Int,
((Rng .i64 x11) →
(∀ x12 : Int,
((Rng .i64 x12) →
(J10 x11 x12 →
(((x11 < (Sl.len s9)) →
((0 : Int) ≤ x11) ∧
(x11 < (Sl.len s9)) ∧
((Rng .i64 (Sl.int s9 x11 0)) →
(Rng .i64 (x0 + x11)) ∧
((((x0 + x11) ≥ x3) →
(q_outstanding x0 s1 s2 x3 x12) ∧ True) ∧
(¬ ((x0 + x11) ≥ x3) →
((((Sl.int s9 x11 0) > 0) →
(Rng .i64 (x0 + x11)) ∧
(Rng .i64 (x12 + (Sl.int s9 x11 0))) ∧
(Rng .i64 (x11 + 1)) ∧
(J10 (x11 + 1) (x12 + (Sl.int s9 x11 0)) ∧ M10 (x11 + 1) (x12 + (Sl.int s9 x11 0)) < M10 x11 x12)) ∧
(¬ ((Sl.int s9 x11 0) > 0) →
(Rng .i64 (x11 + 1)) ∧
(J10 (x11 + 1) x12 ∧ M10 (x11 + 1) x12 < M10 x11 x12))))))) ∧
(¬ (x11 < (Sl.len s9)) →
(q_outstanding x0 s1 s2 x3 x12) ∧ True)))))))))))))))))))))))))))))))))
def V_Outstanding : Prop :=
(∀ x0 : Int,
((Rng .i64 x0) →
(∀ s1 : Sl,
((Ranged s1 [some .i64]) →
(∀ s2 : Sl,
((Ranged s2 [some .i64, some .i64, some .u8, some .i64]) →
(∀ x3 : Int,
((Rng .i64 x3) →
((p_Outstanding x0 s1 s2 x3) →
(p_Valid x0 s1 s2) ∧
(∀ b4 : Bool,
((q_Valid x0 s1 s2 (decide (b4 = true))) →
(((¬ (b4 = true)) →
(q_Outstanding x0 s1 s2 x3 0 2) ∧ True) ∧
(¬ (¬ (b4 = true)) →
(p_outstanding x0 s1 s2 x3) ∧
(∀ x5 : Int,
((Rng .i64 x5) →
((q_outstanding x0 s1 s2 x3 x5) →
(q_Outstanding x0 s1 s2 x3 x5 0) ∧ True))))))))))))))))
def V_Take : Prop :=
(∀ x0 : Int,
((Rng .i64 x0) →
(∀ s1 : Sl,
((Ranged s1 [some .i64]) →
(∀ s2 : Sl,
((Ranged s2 [some .i64, some .i64, some .u8, some .i64]) →
(∀ x3 : Int,
((Rng .i64 x3) →
(∀ x4 : Int,
((Rng .i64 x4) →
(∀ b5 : Bool,
(∀ s6 : Sl,
((Ranged s6 [some .u16]) →
(∀ b7 : Bool,
(∀ s8 : Sl,
((Ranged s8 [some .u16]) →
((p_Take x0 s1 s2 x3 x4 (decide (b5 = true)) s6 (decide (b7 = true)) s8) →
(p_Limit x0 s1 s2 x4 (decide (b5 = true)) s6 (decide (b7 = true)) s8) ∧
(∀ x9 : Int,
((Rng .i64 x9) →
(∀ x10 : Int,
((Rng .i64 x10) →
((q_Limit x0 s1 s2 x4 (decide (b5 = true)) s6 (decide (b7 = true)) s8 x9 x10) →
(((x10 ≠ 0) →
(q_Take x0 s1 s2 x3 x4 (decide (b5 = true)) s6 (decide (b7 = true)) s8 Sl.nil x10) ∧ True) ∧
(¬ (x10 ≠ 0) →
(((x3 < 0) →
(q_Take x0 s1 s2 x3 x4 (decide (b5 = true)) s6 (decide (b7 = true)) s8 Sl.nil 2) ∧ True) ∧
(¬ (x3 < 0) →
(((x3 ≥ 65536) →
(q_Take x0 s1 s2 x3 x4 (decide (b5 = true)) s6 (decide (b7 = true)) s8 Sl.nil 2) ∧ True) ∧
(¬ (x3 ≥ 65536) →
((Small s1) →
((0 : Int) ≤ (Sl.len s1)) ∧
((Sl.len s1) ≤ (Sl.len s1)) ∧
(((Sl.len s1) * 8) ≤ 140737488355328) ∧
((Small s1) →
(∃ (J11 : Int → Sl → Prop) (M11 : Int → Sl → Nat), J11 0 (Sl.rep (Sl.len s1) [(.int 0)]) ∧
(∀ x12 : Int,
((Rng .i64 x12) →
(∀ s13 : Sl,
((Ranged s13 [some .i64]) →
(J11 x12 s13 →
(((x12 < (Sl.len s1)) →
((0 : Int) ≤ x12) ∧
(x12 < (Sl.len s1)) ∧
((Rng .i64 (Sl.int s1 x12 0)) →
(Rng .i64 (0 - (Sl.int s1 x12 0))) ∧
((0 : Int) ≤ x12) ∧
(x12 < (Sl.len s13)) ∧
(Rng .i64 (x12 + 1)) ∧
(J11 (x12 + 1) (Sl.upd s13 x12 0 [(.int (0 - (Sl.int s1 x12 0)))]) ∧ M11 (x12 + 1) (Sl.upd s13 x12 0 [(.int (0 - (Sl.int s1 x12 0)))]) < M11 x12 s13))) ∧
(¬ (x12 < (Sl.len s1)) →
((Small s2) →
(∃ (J14 : Int → Sl → Prop) (M14 : Int → Sl → Nat), J14 0 s13 ∧
(∀ x15 : Int,
((Rng .i64 x15) →
(∀ s16 : Sl,
((Ranged s16 [some .i64]) →
(J14 x15 s16 →
(((x15 < (Sl.len s2)) →
((0 : Int) ≤ x15) ∧
(x15 < (Sl.len s2)) ∧
((Rng .i64 (Sl.int s2 x15 0)) →
((Rng .i64 (Sl.int s2 x15 1)) →
((Rng .u8 (Sl.int s2 x15 2)) →
((Rng .i64 (Sl.int s2 x15 3)) →
((((Sl.int s2 x15 2) ≠ 3) →
(Rng .i64 ((Sl.int s2 x15 1) - x0)) ∧
((0 : Int) ≤ ((Sl.int s2 x15 1) - x0)) ∧
(((Sl.int s2 x15 1) - x0) < (Sl.len s16)) ∧
((Rng .i64 (Sl.int s16 ((Sl.int s2 x15 1) - x0) 0)) →
(Rng .i64 ((Sl.int s16 ((Sl.int s2 x15 1) - x0) 0) + (Sl.int s2 x15 3))) ∧
((0 : Int) ≤ ((Sl.int s2 x15 1) - x0)) ∧
(((Sl.int s2 x15 1) - x0) < (Sl.len s16)) ∧
(Rng .i64 (x15 + 1)) ∧
(J14 (x15 + 1) (Sl.upd s16 ((Sl.int s2 x15 1) - x0) 0 [(.int ((Sl.int s16 ((Sl.int s2 x15 1) - x0) 0) + (Sl.int s2 x15 3)))]) ∧ M14 (x15 + 1) (Sl.upd s16 ((Sl.int s2 x15 1) - x0) 0 [(.int ((Sl.int s16 ((Sl.int s2 x15 1) - x0) 0) + (Sl.int s2 x15 3)))]) < M14 x15 s16))) ∧
(¬ ((Sl.int s2 x15 2) ≠ 3) →
(Rng .i64 (x15 + 1)) ∧
(J14 (x15 + 1) s16 ∧ M14 (x15 + 1) s16 < M14 x15 s16)))))))) ∧
(¬ (x15 < (Sl.len s2)) →
((Small s16) →
(∃ (J17 : Int → Int → Sl → Prop) (M17 : Int → Int → Sl → Nat), J17 0 x9 Sl.nil ∧
(∀ x18 : Int,
((Rng .i64 x18) →
(∀ x19 : Int,
((Rng .i64 x19) →
(∀ s20 : Sl,
((Ranged s20 [some .i64, some .i64, some .u8, some .i64]) →
(J17 x18 x19 s20 →
(((x18 < (Sl.len s16)) →
((0 : Int) ≤ x18) ∧
(x18 < (Sl.len s16)) ∧
((Rng .i64 (Sl.int s16 x18 0)) →
(Rng .i64 (x0 + x18)) ∧
((((x0 + x18) ≥ x4) →
(q_Take x0 s1 s2 x3 x4 (decide (b5 = true)) s6 (decide (b7 = true)) s8 s20 0) ∧ True) ∧
(¬ ((x0 + x18) ≥ x4) →
((((Sl.int s16 x18 0) > 0) →
(Rng .i64 (x0 + x18)) ∧
(((x19 = 0) →
(q_Take x0 s1 s2 x3 x4 (decide (b5 = true)) s6 (decide (b7 = true)) s8 s20 0) ∧ True) ∧
(¬ (x19 = 0) →
(((Rng .i64 (x19 - (imin (Sl.int s16 x18 0) x19))) ∧
(Rng .i64 (0 - (imin (Sl.int s16 x18 0) x19))) ∧
((((Sl.len s20) + (Sl.len (Sl.lit [[(.int x3), (.int (x0 + x18)), (.int 4), (.int (0 - (imin (Sl.int s16 x18 0) x19)))]]))) * 32) ≤ 140737488355328) ∧
(Rng .i64 (x18 + 1)) ∧
(J17 (x18 + 1) (x19 - (imin (Sl.int s16 x18 0) x19)) (Sl.app s20 (Sl.lit [[(.int x3), (.int (x0 + x18)), (.int 4), (.int (0 - (imin (Sl.int s16 x18 0) x19)))]])) ∧ M17 (x18 + 1) (x19 - (imin (Sl.int s16 x18 0) x19)) (Sl.app s20 (Sl.lit [[(.int x3), (.int (x0 + x18)), (.int 4), (.int (0 - (imin (Sl.int s16 x18 0) x19)))]])) < M17 x18 x19 s20)) ∧
((Rng .i64 (x19 - (imin (Sl.int s16 x18 0) x19))) ∧
(Rng .i64 (0 - (imin (Sl.int s16 x18 0) x19))) ∧
((((((Sl.len s20) + (Sl.len (Sl.lit [[(.int x3), (.int (x0 + x18)), (.int 4), (.int (0 - (imin (Sl.int s16 x18 0) x19)))]]))) * 32) ≤ 140737488355328) ∧
(Rng .i64 (x18 + 1)) ∧
(J17 (x18 + 1) (x19 - (imin (Sl.int s16 x18 0) x19)) (Sl.app s20 (Sl.lit [[(.int x3), (.int (x0 + x18)), (.int 4), (.int (0 - (imin (Sl.int s16 x18 0) x19)))]])) ∧ M17 (x18 + 1) (x19 - (imin (Sl.int s16 x18 0) x19)) (Sl.app s20 (Sl.lit [[(.int x3), (.int (x0 + x18)), (.int 4), (.int (0 - (imin (Sl.int s16 x18 0) x19)))]])) < M17 x18 x19 s20)) ∧
(((((Sl.len s20) + (Sl.len (Sl.lit [[(.int x3), (.int (x0 + x18)), (.int 4), (.int (0 - (imin (Sl.int s16 x18 0) x19)))]]))) * 32) ≤ 140737488355328) ∧
(Rng .i64 (x18 + 1)) ∧
(J17 (x18 + 1) (x19 - (imin (Sl.int s16 x18 0) x19)) (Sl.app s20 (Sl.lit [[(.int x3), (.int (x0 + x18)), (.int 4), (.int (0 - (imin (Sl.int s16 x18 0) x19)))]])) ∧ M17 (x18 + 1) (x19 - (imin (Sl.int s16 x18 0) x19)) (Sl.app s20 (Sl.lit [[(.int x3), (.int (x0 + x18)), (.int 4), (.int (0 - (imin (Sl.int s16 x18 0) x19)))]])) < M17 x18 x19 s20)))))))) ∧
(¬ ((Sl.int s16 x18 0) > 0) →
(Rng .i64 (x18 + 1)) ∧
(J17 (x18 + 1) x19 s20 ∧ M17 (x18 + 1) x19 s20 < M17 x18 x19 s20))))))) ∧
(¬ (x18 < (Sl.len s16)) →
(q_Take x0 s1 s2 x3 x4 (decide (b5 = true)) s6 (decide (b7 = true)) s8 s20 0) ∧ True))))))))))))))))))))))))))))))))))))))))))))))))))))))))))
def V_Apply : Prop :=
(∀ x0 : Int,
((Rng .i64 x0) →
(∀ s1 : Sl,
((Ranged s1 [some .i64]) →
(∀ s2 : Sl,
((Ranged s2 [some .i64, some .i64, some .u8, some .i64]) →
(∀ x3 : Int,
((Rng .i64 x3) →
(∀ x4 : Int,
((Rng .i64 x4) →
(∀ b5 : Bool,
(∀ s6 : Sl,
((Ranged s6 [some .u16]) →
(∀ b7 : Bool,
(∀ s8 : Sl,
((Ranged s8 [some .u16]) →
((p_Apply x0 s1 s2 x3 x4 (decide (b5 = true)) s6 (decide (b7 = true)) s8) →
(p_Take x0 s1 s2 x3 x4 (decide (b5 = true)) s6 (decide (b7 = true)) s8) ∧
(∀ s9 : Sl,
((Ranged s9 [some .i64, some .i64, some .u8, some .i64]) →
(∀ x10 : Int,
((Rng .i64 x10) →
((q_Take x0 s1 s2 x3 x4 (decide (b5 = true)) s6 (decide (b7 = true)) s8 s9 x10) →
(((x10 ≠ 0) →
(q_Apply x0 s1 s2 x3 x4 (decide (b5 = true)) s6 (decide (b7 = true)) s8 0 Sl.nil Sl.nil x10) ∧ True) ∧
(¬ (x10 ≠ 0) →
(p_Post x0 s1 s2 s9) ∧
(∀ x11 : Int,
((Rng .i64 x11) →
(∀ s12 : Sl,
((Ranged s12 [some .i64]) →
(∀ s13 : Sl,
((Ranged s13 [some .i64, some .i64, some .u8, some .i64]) →
(∀ x14 : Int,
((Rng .i64 x14) →
((q_Post x0 s1 s2 s9 x11 s12 s13 x14) →
(q_Apply x0 s1 s2 x3 x4 (decide (b5 = true)) s6 (decide (b7 = true)) s8 x11 s12 s13 x14) ∧ True)))))))))))))))))))))))))))))))))
def V_Runs : Prop :=
(∀ x0 : Int,
((Rng .i64 x0) →
(∀ s1 : Sl,
((Ranged s1 [some .i64]) →
(∀ s2 : Sl,
((Ranged s2 [some .i64, some .i64, some .u8, some .i64]) →
(∀ x3 : Int,
((Rng .i64 x3) →
(∀ b4 : Bool,
(∀ s5 : Sl,
((Ranged s5 [some .u16]) →
(∀ b6 : Bool,
(∀ s7 : Sl,
((Ranged s7 [some .u16]) →
((p_Runs x0 s1 s2 x3 (decide (b4 = true)) s5 (decide (b6 = true)) s7) →
(p_Limit x0 s1 s2 x3 (decide (b4 = true)) s5 (decide (b6 = true)) s7) ∧
(∀ x8 : Int,
((Rng .i64 x8) →
(∀ x9 : Int,
((Rng .i64 x9) →
((q_Limit x0 s1 s2 x3 (decide (b4 = true)) s5 (decide (b6 = true)) s7 x8 x9) →
(((x9 ≠ 0) →
(q_Runs x0 s1 s2 x3 (decide (b4 = true)) s5 (decide (b6 = true)) s7 0 x9) ∧ True) ∧
(¬ (x9 ≠ 0) →
(p_outstanding x0 s1 s2 x3) ∧
(∀ x10 : Int,
((Rng .i64 x10) →
((q_outstanding x0 s1 s2 x3 x10) →
(∃ (J11 : Int → Int → Prop) (M11 : Int → Int → Nat), J11 x10 0 ∧
(∀ x12 : Int,
((Rng .i64 x12) →
(∀ x13 : Int,
((Rng .i64 x13) →
(J11 x12 x13 →
(((x12 > 0) →
(Rng .i64 (x3 + x13)) ∧
(p_limit x0 s1 s2 (x3 + x13) (decide (b4 = true)) s5 (decide (b6 = true)) s7) ∧
(∀ x14 : Int,
((Rng .i64 x14) →
(∀ x15 : Int,
((Rng .i64 x15) →
((q_limit x0 s1 s2 (x3 + x13) (decide (b4 = true)) s5 (decide (b6 = true)) s7 x14 x15) →
(((x15 ≠ 0) →
(q_Runs x0 s1 s2 x3 (decide (b4 = true)) s5 (decide (b6 = true)) s7 0 x15) ∧ True) ∧
(¬ (x15 ≠ 0) →
(Rng .i64 (x12 - x14)) ∧
(Rng .i64 (x13 + 1)) ∧
(J11 (x12 - x14) (x13 + 1) ∧ M11 (x12 - x14) (x13 + 1) < M11 x12 x13))))))))) ∧
(¬ (x12 > 0) →
(q_Runs x0 s1 s2 x3 (decide (b4 = true)) s5 (decide (b6 = true)) s7 x13 0) ∧ True)))))))))))))))))))))))))))))))))
def V_xOpen : Prop :=
(∀ x0 : Int,
((Rng .i64 x0) →
(∀ s1 : Sl,
(∀ s2 : Sl,
(∀ x3 : Int,
((Rng .i64 x3) →
((p_xOpen x0 s1 s2 x3) →
(Rng .i64 (x3 - x0)) ∧
((0 : Int) ≤ (x3 - x0)) ∧
((x3 - x0) < (Sl.len s1)) ∧
((Rng .i64 (Sl.int s1 (x3 - x0) 0)) →
(p_rPosted x0 s1 s2 x3) ∧
(∀ x4 : Int,
((Rng .i64 x4) →
((q_rPosted x0 s1 s2 x3 x4) →
(Rng .i64 ((Sl.int s1 (x3 - x0) 0) - x4)) ∧
(q_xOpen x0 s1 s2 x3 ((Sl.int s1 (x3 - x0) 0) - x4)) ∧ True)))))))))))
def V_xShare : Prop :=
(∀ b0 : Bool,
(∀ s1 : Sl,
((Ranged s1 [some .u16]) →
(∀ b2 : Bool,
(∀ s3 : Sl,
((Ranged s3 [some .u16]) →
((p_xShare (decide (b0 = true)) s1 (decide (b2 = true)) s3) →
(p_rValid2 (decide (b0 = true)) s1 (decide (b2 = true)) s3) ∧
(∀ b4 : Bool,
((q_rValid2 (decide (b0 = true)) s1 (decide (b2 = true)) s3 (decide (b4 = true))) →
(((b4 = true) →
(((¬ (b0 = true)) →
(p_rFromInt2 1) ∧
(∀ b5 : Bool,
(∀ s6 : Sl,
((Ranged s6 [some .u16]) →
(∀ b7 : Bool,
(∀ s8 : Sl,
((Ranged s8 [some .u16]) →
((q_rFromInt2 1 (decide (b5 = true)) s6 (decide (b7 = true)) s8) →
(p_rCmp2 (decide (b0 = true)) s1 (decide (b2 = true)) s3 (decide (b5 = true)) s6 (decide (b7 = true)) s8) ∧
(∀ x9 : Int,
((Rng .i64 x9) →
((q_rCmp2 (decide (b0 = true)) s1 (decide (b2 = true)) s3 (decide (b5 = true)) s6 (decide (b7 = true)) s8 x9) →
(q_xShare (decide (b0 = true)) s1 (decide (b2 = true)) s3 (decide (x9 ≤ 0))) ∧ True))))))))))) ∧
(¬ (¬ (b0 = true)) →
(q_xShare (decide (b0 = true)) s1 (decide (b2 = true)) s3 (decide False)) ∧ True))) ∧
(¬ (b4 = true) →
(q_xShare (decide (b0 = true)) s1 (decide (b2 = true)) s3 (decide False)) ∧ True)))))))))))
def V_xLimit : Prop :=
(∀ x0 : Int,
((Rng .i64 x0) →
(∀ s1 : Sl,
((Ranged s1 [some .i64]) →
(∀ s2 : Sl,
((Ranged s2 [some .i64, some .i64, some .u8, some .i64]) →
(∀ x3 : Int,
((Rng .i64 x3) →
(∀ b4 : Bool,
(∀ s5 : Sl,
((Ranged s5 [some .u16]) →
(∀ b6 : Bool,
(∀ s7 : Sl,
((Ranged s7 [some .u16]) →
((p_xLimit x0 s1 s2 x3 (decide (b4 = true)) s5 (decide (b6 = true)) s7) →
(p_rValid x0 s1 s2) ∧
(∀ b8 : Bool,
((q_rValid x0 s1 s2 (decide (b8 = true))) →
(((¬ (b8 = true)) →
(q_xLimit x0 s1 s2 x3 (decide (b4 = true)) s5 (decide (b6 = true)) s7 0 2) ∧ True) ∧
(¬ (¬ (b8 = true)) →
(p_xShare (decide (b4 = true)) s5 (decide (b6 = true)) s7) ∧
(∀ b9 : Bool,
((q_xShare (decide (b4 = true)) s5 (decide (b6 = true)) s7 (decide (b9 = true))) →
(((¬ (b9 = true)) →
(q_xLimit x0 s1 s2 x3 (decide (b4 = true)) s5 (decide (b6 = true)) s7 0 2) ∧ True) ∧
(¬ (¬ (b9 = true)) →
(p_rHas x0 s1 s2 x3) ∧
(∀ b10 : Bool,
((q_rHas x0 s1 s2 x3 (decide (b10 = true))) →
(((¬ (b10 = true)) →
(q_xLimit x0 s1 s2 x3 (decide (b4 = true)) s5 (decide (b6 = true)) s7 0 6) ∧ True) ∧
(¬ (¬ (b10 = true)) →
(Rng .i64 (x3 - x0)) ∧
((0 : Int) ≤ (x3 - x0)) ∧
((x3 - x0) < (Sl.len s1)) ∧
((Rng .i64 (Sl.int s1 (x3 - x0) 0)) →
(((p_rFromInt2 (Sl.int s1 (x3 - x0) 0)) ∧
(∀ b11 : Bool,
(∀ s12 : Sl,
((Ranged s12 [some .u16]) →
(∀ b13 : Bool,
(∀ s14 : Sl,
((Ranged s14 [some .u16]) →
((q_rFromInt2 (Sl.int s1 (x3 - x0) 0) (decide (b11 = true)) s12 (decide (b13 = true)) s14) →
(((p_rMul2 (decide (b4 = true)) s5 (decide (b6 = true)) s7 (decide (b11 = true)) s12 (decide (b13 = true)) s14) ∧
(∀ b15 : Bool,
(∀ s16 : Sl,
((Ranged s16 [some .u16]) →
(∀ b17 : Bool,
(∀ s18 : Sl,
((Ranged s18 [some .u16]) →
(∀ x19 : Int,
((Rng .i64 x19) →
((q_rMul2 (decide (b4 = true)) s5 (decide (b6 = true)) s7 (decide (b11 = true)) s12 (decide (b13 = true)) s14 (decide (b15 = true)) s16 (decide (b17 = true)) s18 x19) →
(((x19 ≠ 0) →
(q_xLimit x0 s1 s2 x3 (decide (b4 = true)) s5 (decide (b6 = true)) s7 0 x19) ∧ True) ∧
(¬ (x19 ≠ 0) →
(p_rFloor2 (decide (b15 = true)) s16 (decide (b17 = true)) s18) ∧
(∀ b20 : Bool,
(∀ s21 : Sl,
((Ranged s21 [some .u16]) →
(∀ x22 : Int,
((Rng .i64 x22) →
((q_rFloor2 (decide (b15 = true)) s16 (decide (b17 = true)) s18 (decide (b20 = true)) s21 x22) →
(p_rInt1 (decide (b20 = true)) s21) ∧
(∀ x23 : Int,
((Rng .i64 x23) →
(∀ x24 : Int,
((Rng .i64 x24) →
((q_rInt1 (decide (b20 = true)) s21 x23 x24) →
(q_xLimit x0 s1 s2 x3 (decide (b4 = true)) s5 (decide (b6 = true)) s7 x23 x24) ∧ True))))))))))))))))))))))) ∧
((p_rMul2 (decide (b4 = true)) s5 (decide (b6 = true)) s7 (decide (b11 = true)) s12 (decide (b13 = true)) s14) ∧
(∀ b15 : Bool,
(∀ s16 : Sl,
((Ranged s16 [some .u16]) →
(∀ b17 : Bool,
(∀ s18 : Sl,
((Ranged s18 [some .u16]) →
(∀ x19 : Int,
((Rng .i64 x19) →
((q_rMul2 (decide (b4 = true)) s5 (decide (b6 = true)) s7 (decide (b11 = true)) s12 (decide (b13 = true)) s14 (decide (b15 = true)) s16 (decide (b17 = true)) s18 x19) →
(((x19 ≠ 0) →
(q_xLimit x0 s1 s2 x3 (decide (b4 = true)) s5 (decide (b6 = true)) s7 0 x19) ∧ True) ∧
(¬ (x19 ≠ 0) →
(p_rFloor2 (decide (b15 = true)) s16 (decide (b17 = true)) s18) ∧
(∀ b20 : Bool,
(∀ s21 : Sl,
((Ranged s21 [some .u16]) →
(∀ x22 : Int,
((Rng .i64 x22) →
((q_rFloor2 (decide (b15 = true)) s16 (decide (b17 = true)) s18 (decide (b20 = true)) s21 x22) →
(p_rInt1 (decide (b20 = true)) s21) ∧
(∀ x23 : Int,
((Rng .i64 x23) →
(∀ x24 : Int,
((Rng .i64 x24) →
((q_rInt1 (decide (b20 = true)) s21 x23 x24) →
(q_xLimit x0 s1 s2 x3 (decide (b4 = true)) s5 (decide (b6 = true)) s7 x23 x24) ∧ True)))))))))))))))))))))))))))))))) ∧
((p_rFromInt2 (Sl.int s1 (x3 - x0) 0)) ∧
(∀ b11 : Bool,
(∀ s12 : Sl,
((Ranged s12 [some .u16]) →
(∀ b13 : Bool,
(∀ s14 : Sl,
((Ranged s14 [some .u16]) →
((q_rFromInt2 (Sl.int s1 (x3 - x0) 0) (decide (b11 = true)) s12 (decide (b13 = true)) s14) →
(p_rMul2 (decide (b4 = true)) s5 (decide (b6 = true)) s7 (decide (b11 = true)) s12 (decide (b13 = true)) s14) ∧
(∀ b15 : Bool,
(∀ s16 : Sl,
((Ranged s16 [some .u16]) →
(∀ b17 : Bool,
(∀ s18 : Sl,
((Ranged s18 [some .u16]) →
(∀ x19 : Int,
((Rng .i64 x19) →
((q_rMul2 (decide (b4 = true)) s5 (decide (b6 = true)) s7 (decide (b11 = true)) s12 (decide (b13 = true)) s14 (decide (b15 = true)) s16 (decide (b17 = true)) s18 x19) →
(((x19 ≠ 0) →
(q_xLimit x0 s1 s2 x3 (decide (b4 = true)) s5 (decide (b6 = true)) s7 0 x19) ∧ True) ∧
(¬ (x19 ≠ 0) →
(p_rFloor2 (decide (b15 = true)) s16 (decide (b17 = true)) s18) ∧
(∀ b20 : Bool,
(∀ s21 : Sl,
((Ranged s21 [some .u16]) →
(∀ x22 : Int,
((Rng .i64 x22) →
((q_rFloor2 (decide (b15 = true)) s16 (decide (b17 = true)) s18 (decide (b20 = true)) s21 x22) →
(p_rInt1 (decide (b20 = true)) s21) ∧
(∀ x23 : Int,
((Rng .i64 x23) →
(∀ x24 : Int,
((Rng .i64 x24) →
((q_rInt1 (decide (b20 = true)) s21 x23 x24) →
(q_xLimit x0 s1 s2 x3 (decide (b4 = true)) s5 (decide (b6 = true)) s7 x23 x24) ∧ True)))))))))))))))))))))))))))))))))))))))))))))))))))))))))))
def V_xOutstanding : Prop :=
(∀ x0 : Int,
((Rng .i64 x0) →
(∀ s1 : Sl,
(∀ s2 : Sl,
(∀ x3 : Int,
((Rng .i64 x3) →
((p_xOutstanding x0 s1 s2 x3) →
(∃ (J4 : Int → Int → Prop) (M4 : Int → Int → Nat), J4 0 0 ∧
(∀ x5 : Int,
((Rng .i64 x5) →
(∀ x6 : Int,
((Rng .i64 x6) →
(J4 x5 x6 →
((Small s1) →
(((x6 < (Sl.len s1)) →
(Rng .i64 (x0 + x6)) ∧
(p_xOpen x0 s1 s2 (x0 + x6)) ∧
(∀ x7 : Int,
((Rng .i64 x7) →
((q_xOpen x0 s1 s2 (x0 + x6) x7) →
(Rng .i64 (x0 + x6)) ∧
((((x0 + x6) < x3) →
(((x7 < 0) →
(Rng .i64 (x5 - x7)) ∧
(Rng .i64 (x6 + 1)) ∧
(J4 (x5 - x7) (x6 + 1) ∧ M4 (x5 - x7) (x6 + 1) < M4 x5 x6)) ∧
(¬ (x7 < 0) →
(Rng .i64 (x6 + 1)) ∧
(J4 x5 (x6 + 1) ∧ M4 x5 (x6 + 1) < M4 x5 x6)))) ∧
(¬ ((x0 + x6) < x3) →
(Rng .i64 (x6 + 1)) ∧
(J4 x5 (x6 + 1) ∧ M4 x5 (x6 + 1) < M4 x5 x6))))))) ∧
(¬ (x6 < (Sl.len s1)) →
(q_xOutstanding x0 s1 s2 x3 x5) ∧ True))))))))))))))))
def V_xTake : Prop :=
(∀ x0 : Int,
((Rng .i64 x0) →
(∀ s1 : Sl,
((Ranged s1 [some .i64]) →
(∀ s2 : Sl,
((Ranged s2 [some .i64, some .i64, some .u8, some .i64]) →
(∀ x3 : Int,
((Rng .i64 x3) →
(∀ x4 : Int,
((Rng .i64 x4) →
(∀ b5 : Bool,
(∀ s6 : Sl,
((Ranged s6 [some .u16]) →
(∀ b7 : Bool,
(∀ s8 : Sl,
((Ranged s8 [some .u16]) →
((p_xTake x0 s1 s2 x3 x4 (decide (b5 = true)) s6 (decide (b7 = true)) s8) →
(p_xLimit x0 s1 s2 x4 (decide (b5 = true)) s6 (decide (b7 = true)) s8) ∧
(∀ x9 : Int,
((Rng .i64 x9) →
(∀ x10 : Int,
((Rng .i64 x10) →
((q_xLimit x0 s1 s2 x4 (decide (b5 = true)) s6 (decide (b7 = true)) s8 x9 x10) →
(((x10 ≠ 0) →
(q_xTake x0 s1 s2 x3 x4 (decide (b5 = true)) s6 (decide (b7 = true)) s8 Sl.nil x10) ∧ True) ∧
(¬ (x10 ≠ 0) →
(((x3 < 0) →
(q_xTake x0 s1 s2 x3 x4 (decide (b5 = true)) s6 (decide (b7 = true)) s8 Sl.nil 2) ∧ True) ∧
(¬ (x3 < 0) →
(((x3 ≥ 65536) →
(q_xTake x0 s1 s2 x3 x4 (decide (b5 = true)) s6 (decide (b7 = true)) s8 Sl.nil 2) ∧ True) ∧
(¬ (x3 ≥ 65536) →
(∃ (J11 : Int → Sl → Int → Prop) (M11 : Int → Sl → Int → Nat), J11 x9 Sl.nil 0 ∧
(∀ x12 : Int,
((Rng .i64 x12) →
(∀ s13 : Sl,
((Ranged s13 [some .i64, some .i64, some .u8, some .i64]) →
(∀ x14 : Int,
((Rng .i64 x14) →
(J11 x12 s13 x14 →
((Small s1) →
(((x14 < (Sl.len s1)) →
(Rng .i64 (x0 + x14)) ∧
(p_xOpen x0 s1 s2 (x0 + x14)) ∧
(∀ x15 : Int,
((Rng .i64 x15) →
((q_xOpen x0 s1 s2 (x0 + x14) x15) →
(Rng .i64 (x0 + x14)) ∧
((((x0 + x14) ≥ x4) →
(Rng .i64 (x14 + 1)) ∧
(J11 x12 s13 (x14 + 1) ∧ M11 x12 s13 (x14 + 1) < M11 x12 s13 x14)) ∧
(¬ ((x0 + x14) ≥ x4) →
(((x15 ≥ 0) →
(Rng .i64 (x14 + 1)) ∧
(J11 x12 s13 (x14 + 1) ∧ M11 x12 s13 (x14 + 1) < M11 x12 s13 x14)) ∧
(¬ (x15 ≥ 0) →
(((x12 = 0) →
(Rng .i64 (x14 + 1)) ∧
(J11 x12 s13 (x14 + 1) ∧ M11 x12 s13 (x14 + 1) < M11 x12 s13 x14)) ∧
(¬ (x12 = 0) →
(Rng .i64 (0 - x15)) ∧
((((0 - x15) > x12) →
(Rng .i64 (0 - x12)) ∧
(Rng .i64 (x12 + (0 - x12))) ∧
(Rng .i64 (x0 + x14)) ∧
((((Sl.len s13) + (Sl.len (Sl.lit [[(.int x3), (.int (x0 + x14)), (.int 4), (.int (0 - x12))]]))) * 32) ≤ 140737488355328) ∧
(Rng .i64 (x14 + 1)) ∧
(J11 (x12 + (0 - x12)) (Sl.app s13 (Sl.lit [[(.int x3), (.int (x0 + x14)), (.int 4), (.int (0 - x12))]])) (x14 + 1) ∧ M11 (x12 + (0 - x12)) (Sl.app s13 (Sl.lit [[(.int x3), (.int (x0 + x14)), (.int 4), (.int (0 - x12))]])) (x14 + 1) < M11 x12 s13 x14)) ∧
(¬ ((0 - x15) > x12) →
(Rng .i64 (x12 + x15)) ∧
(Rng .i64 (x0 + x14)) ∧
((((Sl.len s13) + (Sl.len (Sl.lit [[(.int x3), (.int (x0 + x14)), (.int 4), (.int x15)]]))) * 32) ≤ 140737488355328) ∧
(Rng .i64 (x14 + 1)) ∧
(J11 (x12 + x15) (Sl.app s13 (Sl.lit [[(.int x3), (.int (x0 + x14)), (.int 4), (.int x15)]])) (x14 + 1) ∧ M11 (x12 + x15) (Sl.app s13 (Sl.lit [[(.int x3), (.int (x0 + x14)), (.int 4), (.int x15)]])) (x14 + 1) < M11 x12 s13 x14))))))))))))) ∧
(¬ (x14 < (Sl.len s1)) →
(q_xTake x0 s1 s2 x3 x4 (decide (b5 = true)) s6 (decide (b7 = true)) s8 s13 0) ∧ True)))))))))))))))))))))))))))))))))))))))
def V_xRuns : Prop :=
(∀ x0 : Int,
((Rng .i64 x0) →
(∀ s1 : Sl,
((Ranged s1 [some .i64]) →
(∀ s2 : Sl,
((Ranged s2 [some .i64, some .i64, some .u8, some .i64]) →
(∀ x3 : Int,
((Rng .i64 x3) →
(∀ b4 : Bool,
(∀ s5 : Sl,
((Ranged s5 [some .u16]) →
(∀ b6 : Bool,
(∀ s7 : Sl,
((Ranged s7 [some .u16]) →
((p_xRuns x0 s1 s2 x3 (decide (b4 = true)) s5 (decide (b6 = true)) s7) →
(p_xLimit x0 s1 s2 x3 (decide (b4 = true)) s5 (decide (b6 = true)) s7) ∧
(∀ x8 : Int,
((Rng .i64 x8) →
(∀ x9 : Int,
((Rng .i64 x9) →
((q_xLimit x0 s1 s2 x3 (decide (b4 = true)) s5 (decide (b6 = true)) s7 x8 x9) →
(((x9 ≠ 0) →
(q_xRuns x0 s1 s2 x3 (decide (b4 = true)) s5 (decide (b6 = true)) s7 0 x9) ∧ True) ∧
(¬ (x9 ≠ 0) →
(p_xOutstanding x0 s1 s2 x3) ∧
(∀ x10 : Int,
((Rng .i64 x10) →
((q_xOutstanding x0 s1 s2 x3 x10) →
(∃ (J11 : Int → Int → Prop) (M11 : Int → Int → Nat), J11 0 0 ∧
(∀ x12 : Int,
((Rng .i64 x12) →
(∀ x13 : Int,
((Rng .i64 x13) →
(J11 x12 x13 →
(((x12 ≥ x10) →
(q_xRuns x0 s1 s2 x3 (decide (b4 = true)) s5 (decide (b6 = true)) s7 x13 0) ∧ True) ∧
(¬ (x12 ≥ x10) →
(Rng .i64 (x3 + x13)) ∧
(p_xLimit x0 s1 s2 (x3 + x13) (decide (b4 = true)) s5 (decide (b6 = true)) s7) ∧
(∀ x14 : Int,
((Rng .i64 x14) →
(∀ x15 : Int,
((Rng .i64 x15) →
((q_xLimit x0 s1 s2 (x3 + x13) (decide (b4 = true)) s5 (decide (b6 = true)) s7 x14 x15) →
(((x15 ≠ 0) →
(q_xRuns x0 s1 s2 x3 (decide (b4 = true)) s5 (decide (b6 = true)) s7 0 x15) ∧ True) ∧
(¬ (x15 ≠ 0) →
(Rng .i64 (x12 + x14)) ∧
(Rng .i64 (x13 + 1)) ∧
(J11 (x12 + x14) (x13 + 1) ∧ M11 (x12 + x14) (x13 + 1) < M11 x12 x13)))))))))))))))))))))))))))))))))))))))))
def V_xPost : Prop :=
(∀ x0 : Int,
((Rng .i64 x0) →
(∀ s1 : Sl,
(∀ s2 : Sl,
(∀ s3 : Sl,
((p_xPost x0 s1 s2 s3) →
((((Sl.len (Sl.lit [])) + (Sl.len s2)) * 32) ≤ 140737488355328) ∧
((((Sl.len (Sl.app (Sl.lit []) s2)) + (Sl.len s3)) * 32) ≤ 140737488355328) ∧
(p_rValid x0 s1 s2) ∧
(∀ b4 : Bool,
((q_rValid x0 s1 s2 (decide (b4 = true))) →
(((¬ (b4 = true)) →
(q_xPost x0 s1 s2 s3 0 Sl.nil Sl.nil 2) ∧ True) ∧
(¬ (¬ (b4 = true)) →
(p_rPosts x0 s1 s2 (Sl.app (Sl.app (Sl.lit []) s2) s3)) ∧
(∀ b5 : Bool,
((q_rPosts x0 s1 s2 (Sl.app (Sl.app (Sl.lit []) s2) s3) (decide (b5 = true))) →
(((¬ (b5 = true)) →
(q_xPost x0 s1 s2 s3 0 Sl.nil Sl.nil 2) ∧ True) ∧
(¬ (¬ (b5 = true)) →
((Small (Sl.app (Sl.app (Sl.lit []) s2) s3)) →
((((Sl.len (Sl.app (Sl.app (Sl.lit []) s2) s3)) > 4000) →
(q_xPost x0 s1 s2 s3 0 Sl.nil Sl.nil 5) ∧ True) ∧
(¬ ((Sl.len (Sl.app (Sl.app (Sl.lit []) s2) s3)) > 4000) →
(q_xPost x0 s1 s2 s3 x0 s1 (Sl.app (Sl.app (Sl.lit []) s2) s3) 0) ∧ True)))))))))))))))))
end Go.Sx.N
