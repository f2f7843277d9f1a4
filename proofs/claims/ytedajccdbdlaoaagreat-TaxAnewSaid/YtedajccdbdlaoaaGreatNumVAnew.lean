/-
  The conditions of the functions. Conditions: none; printed by a program of our own.
-/
import Derived.Test.YtedajccdbdlaoaaGreatTaxSpec
namespace Go.Sx.N
def V_Anew_0 (x3 : Int) (x4 : Int) (J12 : Int → Int → Int → Prop) (x13 : Int) : Prop :=
(p_kPick x3 549755813888) ∧
(∀ x200 : Int,
((Rng .i64 x200) →
((q_kPick x3 549755813888 x200) →
(p_kPick x4 1099511627776) ∧
(∀ x201 : Int,
((Rng .i64 x201) →
((q_kPick x4 1099511627776 x201) → J12 x13 x200 x201))))))
def V_Anew_1 (x3 : Int) (x4 : Int) (J12 : Int → Int → Int → Prop) (x13 : Int) : Prop :=
(((V_Anew_0 x3 x4 J12 x13)) ∧
((V_Anew_0 x3 x4 J12 x13)))
def V_Anew_2 (x3 : Int) (x4 : Int) (J12 : Int → Int → Int → Prop) (x13 : Int) : Prop :=
(p_kPick x3 549755813888) ∧
(∀ x100 : Int,
((Rng .i64 x100) →
((q_kPick x3 549755813888 x100) →
(p_kPick x4 1099511627776) ∧
(∀ x101 : Int,
((Rng .i64 x101) →
((q_kPick x4 1099511627776 x101) → J12 x13 x100 x101))))))
def V_Anew_3 (x3 : Int) (x4 : Int) (J12 : Int → Int → Int → Prop) (x100 : Int) : Prop :=
(p_kPick x3 549755813888) ∧
(∀ x200 : Int,
((Rng .i64 x200) →
((q_kPick x3 549755813888 x200) →
(p_kPick x4 1099511627776) ∧
(∀ x201 : Int,
((Rng .i64 x201) →
((q_kPick x4 1099511627776 x201) → J12 x100 x200 x201))))))
def V_Anew_4 (x2 : Int) (x3 : Int) (x4 : Int) (J12 : Int → Int → Int → Prop) : Prop :=
(((p_kPick x2 2100) ∧
(∀ x100 : Int,
((Rng .i64 x100) →
((q_kPick x2 2100 x100) →
(((V_Anew_3 x3 x4 J12 x100)) ∧
((V_Anew_3 x3 x4 J12 x100))))))) ∧
((p_kPick x2 2100) ∧
(∀ x100 : Int,
((Rng .i64 x100) →
((q_kPick x2 2100 x100) →
(V_Anew_3 x3 x4 J12 x100))))))
def V_Anew_5 (x2 : Int) (x3 : Int) (x4 : Int) (J12 : Int → Int → Int → Prop) : Prop :=
(p_kPick x2 2100) ∧
(∀ x200 : Int,
((Rng .i64 x200) →
((q_kPick x2 2100 x200) →
(p_kPick x3 549755813888) ∧
(∀ x201 : Int,
((Rng .i64 x201) →
((q_kPick x3 549755813888 x201) →
(p_kPick x4 1099511627776) ∧
(∀ x202 : Int,
((Rng .i64 x202) →
((q_kPick x4 1099511627776 x202) → J12 x200 x201 x202)))))))))
def V_Anew_6 (x2 : Int) (x3 : Int) (x4 : Int) (J12 : Int → Int → Int → Prop) : Prop :=
(((V_Anew_5 x2 x3 x4 J12)) ∧
((V_Anew_5 x2 x3 x4 J12)))
def V_Anew_7 (x2 : Int) (x3 : Int) (x4 : Int) (J12 : Int → Int → Int → Prop) : Prop :=
(p_kPick x2 2100) ∧
(∀ x100 : Int,
((Rng .i64 x100) →
((q_kPick x2 2100 x100) →
(V_Anew_3 x3 x4 J12 x100))))
def V_Anew : Prop :=
(∀ s0 : Sl,
((Ranged s0 [some .i64, none, none, none, none]) →
(∀ s1 : Sl,
((Ranged s1 [some .i64, none, none, none, none]) →
(∀ x2 : Int,
((Rng .i64 x2) →
(∀ x3 : Int,
((Rng .i64 x3) →
(∀ x4 : Int,
((Rng .i64 x4) →
(∀ x5 : Int,
((Rng .i64 x5) →
(∀ x6 : Int,
((Rng .i64 x6) →
((p_Anew s0 s1 x2 x3 x4 x5 x6) →
(p_awake ) ∧
(∀ b7 : Bool,
((q_awake  (decide (b7 = true))) →
(((¬ (b7 = true)) →
(q_Anew s0 s1 x2 x3 x4 x5 x6 (decide False)) ∧ True) ∧
(¬ (¬ (b7 = true)) →
(p_fits s0) ∧
(∀ b8 : Bool,
((q_fits s0 (decide (b8 = true))) →
(((¬ (b8 = true)) →
(q_Anew s0 s1 x2 x3 x4 x5 x6 (decide True)) ∧ True) ∧
(¬ (¬ (b8 = true)) →
(p_fits s1) ∧
(∀ b9 : Bool,
((q_fits s1 (decide (b9 = true))) →
(((¬ (b9 = true)) →
(q_Anew s0 s1 x2 x3 x4 x5 x6 (decide True)) ∧ True) ∧
(¬ (¬ (b9 = true)) →
(p_tValid s0) ∧
(∀ b10 : Bool,
((q_tValid s0 (decide (b10 = true))) →
(((¬ (b10 = true)) →
(q_Anew s0 s1 x2 x3 x4 x5 x6 (decide True)) ∧ True) ∧
(¬ (¬ (b10 = true)) →
(p_tValid s1) ∧
(∀ b11 : Bool,
((q_tValid s1 (decide (b11 = true))) →
(((¬ (b11 = true)) →
(q_Anew s0 s1 x2 x3 x4 x5 x6 (decide True)) ∧ True) ∧
(¬ (¬ (b11 = true)) →
(∃ J12 : Int → Int → Int → Prop,
(((((((p_kPick x2 2100) ∧
(∀ x13 : Int,
((Rng .i64 x13) →
((q_kPick x2 2100 x13) →
(((V_Anew_1 x3 x4 J12 x13)) ∧
((V_Anew_2 x3 x4 J12 x13))))))) ∧
((((V_Anew_4 x2 x3 x4 J12)) ∧
((V_Anew_6 x2 x3 x4 J12)))))) ∧
((((((V_Anew_4 x2 x3 x4 J12)) ∧
((V_Anew_7 x2 x3 x4 J12)))) ∧
((((V_Anew_6 x2 x3 x4 J12)) ∧
((V_Anew_7 x2 x3 x4 J12)))))))) ∧
((∀ x13 : Int,
((Rng .i64 x13) →
(∀ x14 : Int,
((Rng .i64 x14) →
(∀ x15 : Int,
((Rng .i64 x15) →
(J12 x13 x14 x15 →
(p_kPick x5 274877906944) ∧
(∀ x16 : Int,
((Rng .i64 x16) →
((q_kPick x5 274877906944 x16) →
(p_kPick x6 274877906944) ∧
(∀ x17 : Int,
((Rng .i64 x17) →
((q_kPick x6 274877906944 x17) →
((12 : Int) ≠ 0) ∧
(Rng .i64 (Int.tdiv x13 12)) ∧
(Rng .i64 ((Int.tdiv x13 12) + 1)) ∧
(Rng .i64 (12 * ((Int.tdiv x13 12) + 1))) ∧
((12 : Int) ≠ 0) ∧
(Rng .i64 (Int.tdiv (12 * ((Int.tdiv x13 12) + 1)) 12)) ∧
(Rng .i64 (1900 + (Int.tdiv (12 * ((Int.tdiv x13 12) + 1)) 12))) ∧
(Rng .i64 ((12 * ((Int.tdiv x13 12) + 1)) + 5)) ∧
(p_tWithhold (Sl.lit [[(.int 1900), (Sl.d s0)], [(.int (1900 + (Int.tdiv (12 * ((Int.tdiv x13 12) + 1)) 12))), (Sl.d s1)]]) x13 x14 x15 ((12 * ((Int.tdiv x13 12) + 1)) + 5) x16) ∧
(∀ x18 : Int,
((Rng .i64 x18) →
(∀ x19 : Int,
((Rng .i64 x19) →
(∀ x20 : Int,
((Rng .i64 x20) →
(∀ x21 : Int,
((Rng .i64 x21) →
(∀ x22 : Int,
((Rng .i64 x22) →
((q_tWithhold (Sl.lit [[(.int 1900), (Sl.d s0)], [(.int (1900 + (Int.tdiv (12 * ((Int.tdiv x13 12) + 1)) 12))), (Sl.d s1)]]) x13 x14 x15 ((12 * ((Int.tdiv x13 12) + 1)) + 5) x16 x18 x19 x20 x21 x22) →
(p_tDue s1 6 x16) ∧
(∀ x23 : Int,
((Rng .i64 x23) →
(∀ x24 : Int,
((Rng .i64 x24) →
((q_tDue s1 6 x16 x23 x24) →
(((x22 ≠ 0) →
(q_Anew s0 s1 x2 x3 x4 x5 x6 (decide False)) ∧ True) ∧
(¬ (x22 ≠ 0) →
(((x24 ≠ 0) →
(q_Anew s0 s1 x2 x3 x4 x5 x6 (decide False)) ∧ True) ∧
(¬ (x24 ≠ 0) →
(((x18 ≠ x23) →
(q_Anew s0 s1 x2 x3 x4 x5 x6 (decide False)) ∧ True) ∧
(¬ (x18 ≠ x23) →
(Rng .i64 ((12 * ((Int.tdiv x13 12) + 1)) + 5)) ∧
(((¬ ((x19 = ((12 * ((Int.tdiv x13 12) + 1)) + 5)) ∧ ((x20 = x16) ∧ (x21 = x23)))) →
(q_Anew s0 s1 x2 x3 x4 x5 x6 (decide False)) ∧ True) ∧
(¬ (¬ ((x19 = ((12 * ((Int.tdiv x13 12) + 1)) + 5)) ∧ ((x20 = x16) ∧ (x21 = x23)))) →
(p_tWithhold (Sl.lit [[(.int 1900), (Sl.d s0)], [(.int (1900 + (Int.tdiv (12 * ((Int.tdiv x13 12) + 1)) 12))), (Sl.d s1)]]) x13 x14 x15 x13 x16) ∧
(∀ x25 : Int,
((Rng .i64 x25) →
(∀ x26 : Int,
((Rng .i64 x26) →
(∀ x27 : Int,
((Rng .i64 x27) →
(∀ x28 : Int,
((Rng .i64 x28) →
(∀ x29 : Int,
((Rng .i64 x29) →
((q_tWithhold (Sl.lit [[(.int 1900), (Sl.d s0)], [(.int (1900 + (Int.tdiv (12 * ((Int.tdiv x13 12) + 1)) 12))), (Sl.d s1)]]) x13 x14 x15 x13 x16 x25 x26 x27 x28 x29) →
(p_tWithhold (Sl.lit [[(.int 1900), (Sl.d s0)], [(.int (1900 + (Int.tdiv (12 * ((Int.tdiv x13 12) + 1)) 12))), (Sl.d s1)]]) x26 x27 x28 x13 x17) ∧
(∀ x30 : Int,
((Rng .i64 x30) →
(∀ x31 : Int,
((Rng .i64 x31) →
(∀ x32 : Int,
((Rng .i64 x32) →
(∀ x33 : Int,
((Rng .i64 x33) →
(∀ x34 : Int,
((Rng .i64 x34) →
((q_tWithhold (Sl.lit [[(.int 1900), (Sl.d s0)], [(.int (1900 + (Int.tdiv (12 * ((Int.tdiv x13 12) + 1)) 12))), (Sl.d s1)]]) x26 x27 x28 x13 x17 x30 x31 x32 x33 x34) →
(Rng .i64 (x16 + x17)) ∧
(p_tWithhold (Sl.lit [[(.int 1900), (Sl.d s0)], [(.int (1900 + (Int.tdiv (12 * ((Int.tdiv x13 12) + 1)) 12))), (Sl.d s1)]]) x13 x14 x15 x13 (x16 + x17)) ∧
(∀ x35 : Int,
((Rng .i64 x35) →
(∀ x36 : Int,
((Rng .i64 x36) →
(∀ x37 : Int,
((Rng .i64 x37) →
(∀ x38 : Int,
((Rng .i64 x38) →
(∀ x39 : Int,
((Rng .i64 x39) →
((q_tWithhold (Sl.lit [[(.int 1900), (Sl.d s0)], [(.int (1900 + (Int.tdiv (12 * ((Int.tdiv x13 12) + 1)) 12))), (Sl.d s1)]]) x13 x14 x15 x13 (x16 + x17) x35 x36 x37 x38 x39) →
(Rng .i64 (x29 + x34)) ∧
(Rng .i64 ((x29 + x34) + x39)) ∧
(((((x29 + x34) + x39) = 0) →
((((x31 = x36) ∧ ((x32 = x37) ∧ (x33 = x38))) →
(Rng .i64 (x25 + x30)) ∧
((((x25 + x30) = x35) →
(Rng .i64 (x38 - x15)) ∧
(q_Anew s0 s1 x2 x3 x4 x5 x6 (decide (x35 = (x38 - x15)))) ∧ True) ∧
(¬ ((x25 + x30) = x35) →
(q_Anew s0 s1 x2 x3 x4 x5 x6 (decide False)) ∧ True))) ∧
(¬ ((x31 = x36) ∧ ((x32 = x37) ∧ (x33 = x38))) →
(q_Anew s0 s1 x2 x3 x4 x5 x6 (decide False)) ∧ True))) ∧
(¬ (((x29 + x34) + x39) = 0) →
(q_Anew s0 s1 x2 x3 x4 x5 x6 (decide False)) ∧ True))))))))))))))))))))))))))))))))))))))))))))))))))))))))))))))))))))))))))))))))))))))))))))))))))))))))))))))
end Go.Sx.N
