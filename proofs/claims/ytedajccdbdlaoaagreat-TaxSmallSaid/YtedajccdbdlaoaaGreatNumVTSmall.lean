/-
  The conditions of the functions. Conditions: none; printed by a program of our own.
-/
import Derived.Test.YtedajccdbdlaoaaGreatTaxSpec
set_option maxRecDepth 20000
namespace Go.Sx.N
def V_TSmall_0 (s14 : Sl) (s43 : Sl) (x46 : Int) (s47 : Sl) (s48 : Sl) (J49 : Int → Prop) (M49 : Int → Nat) (x50 : Int) : Prop :=
(p_tells (Sl.lit [[(.int (Sl.int s47 x46 0)), (.bool (decide (Sl.bool s48 2 0 = true))), (Sl.d (Sl.sub s48 2 1)), (.bool (decide (Sl.bool s48 2 2 = true))), (Sl.d (Sl.sub s48 2 3))], [(.int (Sl.int s47 x50 0)), (.bool (decide (Sl.bool s48 6 0 = true))), (Sl.d (Sl.sub s48 6 1)), (.bool (decide (Sl.bool s48 6 2 = true))), (Sl.d (Sl.sub s48 6 3))]]) (1 + x50) (Sl.int s47 x50 0)) ∧
(∀ b100 : Bool,
((q_tells (Sl.lit [[(.int (Sl.int s47 x46 0)), (.bool (decide (Sl.bool s48 2 0 = true))), (Sl.d (Sl.sub s48 2 1)), (.bool (decide (Sl.bool s48 2 2 = true))), (Sl.d (Sl.sub s48 2 3))], [(.int (Sl.int s47 x50 0)), (.bool (decide (Sl.bool s48 6 0 = true))), (Sl.d (Sl.sub s48 6 1)), (.bool (decide (Sl.bool s48 6 2 = true))), (Sl.d (Sl.sub s48 6 3))]]) (1 + x50) (Sl.int s47 x50 0) (decide (b100 = true))) →
(((¬ (b100 = true)) →
(q_TSmall  (decide False)) ∧ True) ∧
(¬ (¬ (b100 = true)) →
((0 : Int) ≤ x46) ∧
(x46 < (Sl.len s47)) ∧
((Rng .i64 (Sl.int s47 x46 0)) →
((0 : Int) ≤ x50) ∧
(x50 < (Sl.len s47)) ∧
((Rng .i64 (Sl.int s47 x50 0)) →
(Rng .i64 (x46 + x50)) ∧
((13 : Int) ≠ 0) ∧
(Rng .i64 (Int.tmod (x46 + x50) 13)) ∧
((0 : Int) ≤ (Int.tmod (x46 + x50) 13)) ∧
((Int.tmod (x46 + x50) 13) < (Sl.len s47)) ∧
((Rng .i64 (Sl.int s47 (Int.tmod (x46 + x50) 13) 0)) →
((0 : Int) ≤ x50) ∧
(x50 < (Sl.len s47)) ∧
((Rng .i64 (Sl.int s47 x50 0)) →
((0 : Int) ≤ x46) ∧
(x46 < (Sl.len s47)) ∧
((Rng .i64 (Sl.int s47 x46 0)) →
(p_withholds (Sl.lit [[(.int 1900), (Sl.d s14)], [(.int 1905), (Sl.d Sl.nil)]]) s43 (Sl.int s47 x46 0) (Sl.int s47 x50 0) (Sl.int s47 (Int.tmod (x46 + x50) 13) 0) (Sl.lit [[(.int 0), (.int 1)], [(.int (Sl.int s47 x50 0)), (.int 7)], [(.int 1), (.int (Sl.int s47 x46 0))]])) ∧
(∀ b101 : Bool,
((q_withholds (Sl.lit [[(.int 1900), (Sl.d s14)], [(.int 1905), (Sl.d Sl.nil)]]) s43 (Sl.int s47 x46 0) (Sl.int s47 x50 0) (Sl.int s47 (Int.tmod (x46 + x50) 13) 0) (Sl.lit [[(.int 0), (.int 1)], [(.int (Sl.int s47 x50 0)), (.int 7)], [(.int 1), (.int (Sl.int s47 x46 0))]]) (decide (b101 = true))) →
(((¬ (b101 = true)) →
(q_TSmall  (decide False)) ∧ True) ∧
(¬ (¬ (b101 = true)) →
((0 : Int) ≤ x50) ∧
(x50 < (Sl.len s47)) ∧
((Rng .i64 (Sl.int s47 x50 0)) →
((0 : Int) ≤ x50) ∧
(x50 < (Sl.len s47)) ∧
((Rng .i64 (Sl.int s47 x50 0)) →
(p_withholds (Sl.lit [[(.int 1900), (Sl.d s14)], [(.int 1905), (Sl.d Sl.nil)]]) s43 2150 0 0 (Sl.lit [[(.int x46), (.int (Sl.int s47 x50 0))], [(.int 0), (.int (Sl.int s47 x50 0))]])) ∧
(∀ b102 : Bool,
((q_withholds (Sl.lit [[(.int 1900), (Sl.d s14)], [(.int 1905), (Sl.d Sl.nil)]]) s43 2150 0 0 (Sl.lit [[(.int x46), (.int (Sl.int s47 x50 0))], [(.int 0), (.int (Sl.int s47 x50 0))]]) (decide (b102 = true))) →
(((¬ (b102 = true)) →
(q_TSmall  (decide False)) ∧ True) ∧
(¬ (¬ (b102 = true)) →
(Rng .i64 (x50 + 1)) ∧
(J49 (x50 + 1) ∧ M49 (x50 + 1) < M49 x50))))))))))))))))))))
def V_TSmall_1 (s48 : Sl) (x50 : Int) (J51 : Int → Prop) (M51 : Int → Nat) (x52 : Int) : Prop :=
(p_tells (Sl.lit [[(.int 6), (.bool (decide (Sl.bool s48 x50 0 = true))), (Sl.d (Sl.sub s48 x50 1)), (.bool (decide (Sl.bool s48 x50 2 = true))), (Sl.d (Sl.sub s48 x50 3))], [(.int 6), (.bool (decide (Sl.bool s48 x52 0 = true))), (Sl.d (Sl.sub s48 x52 1)), (.bool (decide (Sl.bool s48 x52 2 = true))), (Sl.d (Sl.sub s48 x52 3))]]) 12 1000) ∧
(∀ b200 : Bool,
((q_tells (Sl.lit [[(.int 6), (.bool (decide (Sl.bool s48 x50 0 = true))), (Sl.d (Sl.sub s48 x50 1)), (.bool (decide (Sl.bool s48 x50 2 = true))), (Sl.d (Sl.sub s48 x50 3))], [(.int 6), (.bool (decide (Sl.bool s48 x52 0 = true))), (Sl.d (Sl.sub s48 x52 1)), (.bool (decide (Sl.bool s48 x52 2 = true))), (Sl.d (Sl.sub s48 x52 3))]]) 12 1000 (decide (b200 = true))) →
(((¬ (b200 = true)) →
(q_TSmall  (decide False)) ∧ True) ∧
(¬ (¬ (b200 = true)) →
(Rng .i64 (x52 + 1)) ∧
(J51 (x52 + 1) ∧ M51 (x52 + 1) < M51 x52)))))
def V_TSmall_2 (s48 : Sl) (x50 : Int) (J51 : Int → Prop) (M51 : Int → Nat) (x52 : Int) : Prop :=
(p_tells (Sl.lit [[(.int 5), (.bool (decide (Sl.bool s48 x50 0 = true))), (Sl.d (Sl.sub s48 x50 1)), (.bool (decide (Sl.bool s48 x50 2 = true))), (Sl.d (Sl.sub s48 x50 3))], [(.int 6), (.bool (decide (Sl.bool s48 x52 0 = true))), (Sl.d (Sl.sub s48 x52 1)), (.bool (decide (Sl.bool s48 x52 2 = true))), (Sl.d (Sl.sub s48 x52 3))]]) 12 1000) ∧
(∀ b100 : Bool,
((q_tells (Sl.lit [[(.int 5), (.bool (decide (Sl.bool s48 x50 0 = true))), (Sl.d (Sl.sub s48 x50 1)), (.bool (decide (Sl.bool s48 x50 2 = true))), (Sl.d (Sl.sub s48 x50 3))], [(.int 6), (.bool (decide (Sl.bool s48 x52 0 = true))), (Sl.d (Sl.sub s48 x52 1)), (.bool (decide (Sl.bool s48 x52 2 = true))), (Sl.d (Sl.sub s48 x52 3))]]) 12 1000 (decide (b100 = true))) →
(((¬ (b100 = true)) →
(q_TSmall  (decide False)) ∧ True) ∧
(¬ (¬ (b100 = true)) →
((0 : Int) ≤ x50) ∧
(x50 < (Sl.len s48)) ∧
((0 : Int) ≤ x52) ∧
(x52 < (Sl.len s48)) ∧
((((Ranged (Sl.sub s48 x50 1) [some .u16]) →
((Ranged (Sl.sub s48 x50 3) [some .u16]) →
((Ranged (Sl.sub s48 x52 1) [some .u16]) →
((Ranged (Sl.sub s48 x52 3) [some .u16]) →
(V_TSmall_1 s48 x50 J51 M51 x52)))))) ∧
(((Ranged (Sl.sub s48 x52 1) [some .u16]) →
((Ranged (Sl.sub s48 x52 3) [some .u16]) →
((Ranged (Sl.sub s48 x50 1) [some .u16]) →
((Ranged (Sl.sub s48 x50 3) [some .u16]) →
(V_TSmall_1 s48 x50 J51 M51 x52)))))))))))
def V_TSmall : Prop :=
((p_TSmall ) →
(p_rQuick 1 7) ∧
(∀ b0 : Bool,
(∀ s1 : Sl,
((Ranged s1 [some .u16]) →
(∀ b2 : Bool,
(∀ s3 : Sl,
((Ranged s3 [some .u16]) →
((q_rQuick 1 7 (decide (b0 = true)) s1 (decide (b2 = true)) s3) →
(p_rQuick 2 5) ∧
(∀ b4 : Bool,
(∀ s5 : Sl,
((Ranged s5 [some .u16]) →
(∀ b6 : Bool,
(∀ s7 : Sl,
((Ranged s7 [some .u16]) →
((q_rQuick 2 5 (decide (b4 = true)) s5 (decide (b6 = true)) s7) →
(p_rFromInt2 1) ∧
(∀ b8 : Bool,
(∀ s9 : Sl,
((Ranged s9 [some .u16]) →
(∀ b10 : Bool,
(∀ s11 : Sl,
((Ranged s11 [some .u16]) →
((q_rFromInt2 1 (decide (b8 = true)) s9 (decide (b10 = true)) s11) →
(∃ (J12 : Int → Sl → Prop) (M12 : Int → Sl → Nat), J12 (-1) (Sl.lit [[(.int 7), (.bool (decide (b0 = true))), (Sl.d s1), (.bool (decide (b2 = true))), (Sl.d s3)], [(.int 19), (.bool (decide (b4 = true))), (Sl.d s5), (.bool (decide (b6 = true))), (Sl.d s7)], [(.int 31), (.bool (decide (b8 = true))), (Sl.d s9), (.bool (decide (b10 = true))), (Sl.d s11)]]) ∧
(∀ x13 : Int,
((Rng .i64 x13) →
(∀ s14 : Sl,
((Ranged s14 [some .i64, none, none, none, none]) →
(J12 x13 s14 →
(((x13 < 15) →
(∃ (J15 : Int → Prop) (M15 : Int → Nat), J15 (-1) ∧
(∀ x16 : Int,
((Rng .i64 x16) →
(J15 x16 →
(((x16 < 61) →
(p_tells s14 x13 x16) ∧
(∀ b17 : Bool,
((q_tells s14 x13 x16 (decide (b17 = true))) →
(((¬ (b17 = true)) →
(q_TSmall  (decide False)) ∧ True) ∧
(¬ (¬ (b17 = true)) →
((0 : Int) ≤ 1) ∧
((1 : Int) ≤ (Sl.len s14)) ∧
((Sl.len s14) ≤ (Sl.len s14)) ∧
(p_tells (Sl.part s14 1 (Sl.len s14)) x13 x16) ∧
(∀ b18 : Bool,
((q_tells (Sl.part s14 1 (Sl.len s14)) x13 x16 (decide (b18 = true))) →
(((¬ (b18 = true)) →
(q_TSmall  (decide False)) ∧ True) ∧
(¬ (¬ (b18 = true)) →
((0 : Int) ≤ 0) ∧
((0 : Int) ≤ 1) ∧
((1 : Int) ≤ (Sl.len s14)) ∧
(p_tells (Sl.part s14 0 1) x13 x16) ∧
(∀ b19 : Bool,
((q_tells (Sl.part s14 0 1) x13 x16 (decide (b19 = true))) →
(((¬ (b19 = true)) →
(q_TSmall  (decide False)) ∧ True) ∧
(¬ (¬ (b19 = true)) →
(Rng .i64 (x16 + 1)) ∧
(J15 (x16 + 1) ∧ M15 (x16 + 1) < M15 x16)))))))))))))) ∧
(¬ (x16 < 61) →
(Rng .i64 (x13 + 1)) ∧
(J12 (x13 + 1) s14 ∧ M12 (x13 + 1) s14 < M12 x13 s14)))))))) ∧
(¬ (x13 < 15) →
(p_rFromInt2 0) ∧
(∀ b15 : Bool,
(∀ s16 : Sl,
((Ranged s16 [some .u16]) →
(∀ b17 : Bool,
(∀ s18 : Sl,
((Ranged s18 [some .u16]) →
((q_rFromInt2 0 (decide (b15 = true)) s16 (decide (b17 = true)) s18) →
(p_rFromInt2 1) ∧
(∀ b19 : Bool,
(∀ s20 : Sl,
((Ranged s20 [some .u16]) →
(∀ b21 : Bool,
(∀ s22 : Sl,
((Ranged s22 [some .u16]) →
((q_rFromInt2 1 (decide (b19 = true)) s20 (decide (b21 = true)) s22) →
(p_rQuick 1 1000000) ∧
(∀ b23 : Bool,
(∀ s24 : Sl,
((Ranged s24 [some .u16]) →
(∀ b25 : Bool,
(∀ s26 : Sl,
((Ranged s26 [some .u16]) →
((q_rQuick 1 1000000 (decide (b23 = true)) s24 (decide (b25 = true)) s26) →
(p_rQuick 1 1000001) ∧
(∀ b27 : Bool,
(∀ s28 : Sl,
((Ranged s28 [some .u16]) →
(∀ b29 : Bool,
(∀ s30 : Sl,
((Ranged s30 [some .u16]) →
((q_rQuick 1 1000001 (decide (b27 = true)) s28 (decide (b29 = true)) s30) →
(p_rQuick 1000001 1000000) ∧
(∀ b31 : Bool,
(∀ s32 : Sl,
((Ranged s32 [some .u16]) →
(∀ b33 : Bool,
(∀ s34 : Sl,
((Ranged s34 [some .u16]) →
((q_rQuick 1000001 1000000 (decide (b31 = true)) s32 (decide (b33 = true)) s34) →
(p_rQuick (-1) 2) ∧
(∀ b35 : Bool,
(∀ s36 : Sl,
((Ranged s36 [some .u16]) →
(∀ b37 : Bool,
(∀ s38 : Sl,
((Ranged s38 [some .u16]) →
((q_rQuick (-1) 2 (decide (b35 = true)) s36 (decide (b37 = true)) s38) →
(p_rQuick 1 2) ∧
(∀ b39 : Bool,
(∀ s40 : Sl,
((Ranged s40 [some .u16]) →
(∀ b41 : Bool,
(∀ s42 : Sl,
((Ranged s42 [some .u16]) →
((q_rQuick 1 2 (decide (b39 = true)) s40 (decide (b41 = true)) s42) →
(p_scales (Sl.lit [[(.int 1900), (Sl.d s14)], [(.int 1905), (Sl.d Sl.nil)]])) ∧
(∀ s43 : Sl,
((Ranged s43 [some .i64, none]) →
(∀ b44 : Bool,
((q_scales (Sl.lit [[(.int 1900), (Sl.d s14)], [(.int 1905), (Sl.d Sl.nil)]]) s43 (decide (b44 = true))) →
(∃ (J45 : Int → Sl → Sl → Prop) (M45 : Int → Sl → Sl → Nat), J45 0 (Sl.lit [[(.int (-9223372036854775808))], [(.int (-1099511627777))], [(.int (-1099511627776))], [(.int (-1))], [(.int 0)], [(.int 1)], [(.int 12)], [(.int 2153)], [(.int 2154)], [(.int 1099511627775)], [(.int 1099511627776)], [(.int 1099511627777)], [(.int 9223372036854775807)]]) (Sl.lit [[(.bool (decide (b15 = true))), (Sl.d s16), (.bool (decide (b17 = true))), (Sl.d s18)], [(.bool (decide (b19 = true))), (Sl.d s20), (.bool (decide (b21 = true))), (Sl.d s22)], [(.bool (decide (b23 = true))), (Sl.d s24), (.bool (decide (b25 = true))), (Sl.d s26)], [(.bool (decide (b27 = true))), (Sl.d s28), (.bool (decide (b29 = true))), (Sl.d s30)], [(.bool (decide (b31 = true))), (Sl.d s32), (.bool (decide (b33 = true))), (Sl.d s34)], [(.bool (decide (b35 = true))), (Sl.d s36), (.bool (decide (b37 = true))), (Sl.d s38)], [(.bool (decide (b39 = true))), (Sl.d s40), (.bool (decide (b41 = true))), (Sl.d s42)], [(.bool (decide False)), (Sl.d Sl.nil), (.bool (decide False)), (Sl.d Sl.nil)], [(.bool (decide False)), (Sl.d (Sl.lit [[(.int 2)]])), (.bool (decide False)), (Sl.d (Sl.lit [[(.int 4)]]))], [(.bool (decide False)), (Sl.d (Sl.lit [[(.int 1)]])), (.bool (decide False)), (Sl.d (Sl.lit [[(.int 1)], [(.int 0)]]))]]) ∧
(∀ x46 : Int,
((Rng .i64 x46) →
(∀ s47 : Sl,
((Ranged s47 [some .i64]) →
(∀ s48 : Sl,
((Ranged s48 [none, none, none, none]) →
(J45 x46 s47 s48 →
((Small s47) →
(((x46 < (Sl.len s47)) →
(∃ (J49 : Int → Prop) (M49 : Int → Nat), J49 0 ∧
(∀ x50 : Int,
((Rng .i64 x50) →
(J49 x50 →
((Small s47) →
(((x50 < (Sl.len s47)) →
((0 : Int) ≤ x46) ∧
(x46 < (Sl.len s47)) ∧
((Rng .i64 (Sl.int s47 x46 0)) →
((0 : Int) ≤ 2) ∧
((2 : Int) < (Sl.len s48)) ∧
((0 : Int) ≤ x50) ∧
(x50 < (Sl.len s47)) ∧
((Rng .i64 (Sl.int s47 x50 0)) →
((0 : Int) ≤ 6) ∧
((6 : Int) < (Sl.len s48)) ∧
(Rng .i64 (1 + x50)) ∧
((0 : Int) ≤ x50) ∧
(x50 < (Sl.len s47)) ∧
((Rng .i64 (Sl.int s47 x50 0)) →
((((Ranged (Sl.sub s48 2 1) [some .u16]) →
((Ranged (Sl.sub s48 2 3) [some .u16]) →
((Ranged (Sl.sub s48 6 1) [some .u16]) →
((Ranged (Sl.sub s48 6 3) [some .u16]) →
(V_TSmall_0 s14 s43 x46 s47 s48 J49 M49 x50)))))) ∧
(((Ranged (Sl.sub s48 6 1) [some .u16]) →
((Ranged (Sl.sub s48 6 3) [some .u16]) →
((Ranged (Sl.sub s48 2 1) [some .u16]) →
((Ranged (Sl.sub s48 2 3) [some .u16]) →
(V_TSmall_0 s14 s43 x46 s47 s48 J49 M49 x50))))))))))) ∧
(¬ (x50 < (Sl.len s47)) →
(Rng .i64 (x46 + 1)) ∧
(J45 (x46 + 1) s47 s48 ∧ M45 (x46 + 1) s47 s48 < M45 x46 s47 s48))))))))) ∧
(¬ (x46 < (Sl.len s47)) →
(∃ (J49 : Int → Prop) (M49 : Int → Nat), J49 0 ∧
(∀ x50 : Int,
((Rng .i64 x50) →
(J49 x50 →
((Small s48) →
(((x50 < (Sl.len s48)) →
(∃ (J51 : Int → Prop) (M51 : Int → Nat), J51 0 ∧
(∀ x52 : Int,
((Rng .i64 x52) →
(J51 x52 →
((Small s48) →
(((x52 < (Sl.len s48)) →
((0 : Int) ≤ x50) ∧
(x50 < (Sl.len s48)) ∧
((0 : Int) ≤ x52) ∧
(x52 < (Sl.len s48)) ∧
((((Ranged (Sl.sub s48 x50 1) [some .u16]) →
((Ranged (Sl.sub s48 x50 3) [some .u16]) →
((Ranged (Sl.sub s48 x52 1) [some .u16]) →
((Ranged (Sl.sub s48 x52 3) [some .u16]) →
(V_TSmall_2 s48 x50 J51 M51 x52)))))) ∧
(((Ranged (Sl.sub s48 x52 1) [some .u16]) →
((Ranged (Sl.sub s48 x52 3) [some .u16]) →
((Ranged (Sl.sub s48 x50 1) [some .u16]) →
((Ranged (Sl.sub s48 x50 3) [some .u16]) →
(V_TSmall_2 s48 x50 J51 M51 x52)))))))) ∧
(¬ (x52 < (Sl.len s48)) →
(Rng .i64 (x50 + 1)) ∧
(J49 (x50 + 1) ∧ M49 (x50 + 1) < M49 x50))))))))) ∧
(¬ (x50 < (Sl.len s48)) →
(∃ (J51 : Sl → Int → Prop) (M51 : Sl → Int → Nat), J51 Sl.nil 0 ∧
(∀ s52 : Sl,
((Ranged s52 [some .i64, none, none, none, none]) →
(∀ x53 : Int,
((Rng .i64 x53) →
(J51 s52 x53 →
(((x53 < 23) →
(p_tells s52 5 1000) ∧
(∀ b54 : Bool,
((q_tells s52 5 1000 (decide (b54 = true))) →
(((¬ (b54 = true)) →
(q_TSmall  (decide False)) ∧ True) ∧
(¬ (¬ (b54 = true)) →
(Rng .i64 (3 * x53)) ∧
(p_rQuick x53 40) ∧
(∀ b55 : Bool,
(∀ s56 : Sl,
((Ranged s56 [some .u16]) →
(∀ b57 : Bool,
(∀ s58 : Sl,
((Ranged s58 [some .u16]) →
((q_rQuick x53 40 (decide (b55 = true)) s56 (decide (b57 = true)) s58) →
((((Sl.len s52) + (Sl.len (Sl.lit [[(.int (3 * x53)), (.bool (decide (b55 = true))), (Sl.d s56), (.bool (decide (b57 = true))), (Sl.d s58)]]))) * 72) ≤ 140737488355328) ∧
(Rng .i64 (x53 + 1)) ∧
(J51 (Sl.app s52 (Sl.lit [[(.int (3 * x53)), (.bool (decide (b55 = true))), (Sl.d s56), (.bool (decide (b57 = true))), (Sl.d s58)]])) (x53 + 1) ∧ M51 (Sl.app s52 (Sl.lit [[(.int (3 * x53)), (.bool (decide (b55 = true))), (Sl.d s56), (.bool (decide (b57 = true))), (Sl.d s58)]])) (x53 + 1) < M51 s52 x53))))))))))))) ∧
(¬ (x53 < 23) →
(p_awake ) ∧
(∀ b54 : Bool,
((q_awake  (decide (b54 = true))) →
(q_TSmall  (decide (b54 = true))) ∧ True)))))))))))))))))))))))))))))))))))))))))))))))))))))))))))))))))))))))))))))))))))))))))))))))))))))))))))))))
end Go.Sx.N
