/-
  The conditions of the functions. Conditions: none; printed by a program of our own.
-/
import Derived.Test.YtljmbenpkbjmmaaGreatRecSpec
set_option maxRecDepth 20000
namespace Go.Sx.N
def V_Oldest_0 (s12 : Sl) (J14 : Int → Sl → Prop) (M14 : Int → Sl → Nat) (x15 : Int) (s16 : Sl) : Prop :=
(Rng .i64 (0 - (Sl.int s12 x15 3))) ∧
(Rng .i64 (x15 + 1)) ∧
(J14 (x15 + 1) (Sl.mset s16 (Sl.int s12 x15 1) [(.int (0 - (Sl.int s12 x15 3)))]) ∧ M14 (x15 + 1) (Sl.mset s16 (Sl.int s12 x15 1) [(.int (0 - (Sl.int s12 x15 3)))]) < M14 x15 s16)
def V_Oldest_1 (x0 : Int) (x4 : Int) (s16 : Sl) (J17 : Bool → Int → Prop) (M17 : Bool → Int → Nat) (b18 : Bool) (x19 : Int) (x20 : Int) : Prop :=
((((x0 + x19) < x4) →
(((x20 < 0) →
(((b18 = true) →
((Rng .i64 (Sl.int (Sl.mget s16 (x0 + x19) [(.int 0)]) 0 0)) →
(Rng .i64 (0 - x20)) ∧
(Rng .i64 (x19 + 1)) ∧
(J17 (decide ((Sl.int (Sl.mget s16 (x0 + x19) [(.int 0)]) 0 0) = (0 - x20))) (x19 + 1) ∧ M17 (decide ((Sl.int (Sl.mget s16 (x0 + x19) [(.int 0)]) 0 0) = (0 - x20))) (x19 + 1) < M17 (decide (b18 = true)) x19))) ∧
(¬ (b18 = true) →
(Rng .i64 (x19 + 1)) ∧
(J17 (decide False) (x19 + 1) ∧ M17 (decide False) (x19 + 1) < M17 (decide (b18 = true)) x19)))) ∧
(¬ (x20 < 0) →
(Rng .i64 (x19 + 1)) ∧
(J17 (decide (b18 = true)) (x19 + 1) ∧ M17 (decide (b18 = true)) (x19 + 1) < M17 (decide (b18 = true)) x19)))) ∧
(¬ ((x0 + x19) < x4) →
(Rng .i64 (x19 + 1)) ∧
(J17 (decide (b18 = true)) (x19 + 1) ∧ M17 (decide (b18 = true)) (x19 + 1) < M17 (decide (b18 = true)) x19)))
def V_Oldest : Prop :=
(∀ x0 : Int,
((Rng .i64 x0) →
(∀ s1 : Sl,
((Ranged s1 [some .i64]) →
(∀ s2 : Sl,
((Ranged s2 [some .i64, some .i64, some .u8, some .i64]) →
(∀ x3 : Int,
((Rng .i64 x3) →
(∀ x4 : Int,
((Rng .i64 x4) →
(∀ x5 : Int,
((Rng .u8 x5) →
(∀ x6 : Int,
((Rng .u8 x6) →
((p_Oldest x0 s1 s2 x3 x4 x5 x6) →
(p_few x0 s1 s2) ∧
(∀ b7 : Bool,
((q_few x0 s1 s2 (decide (b7 = true))) →
(((¬ (b7 = true)) →
(p_awake ) ∧
(∀ b8 : Bool,
((q_awake  (decide (b8 = true))) →
(q_Oldest x0 s1 s2 x3 x4 x5 x6 (decide (b8 = true))) ∧ True))) ∧
(¬ (¬ (b7 = true)) →
(Rng .i64 (x6 + 2)) ∧
((x6 + 2) ≠ 0) ∧
(Rng .i64 (Int.tmod x5 (x6 + 2))) ∧
(Rng .i64 (x6 + 1)) ∧
(p_Part (Int.tmod x5 (x6 + 2)) (x6 + 1)) ∧
(∀ b8 : Bool,
(∀ s9 : Sl,
((Ranged s9 [some .u16]) →
(∀ b10 : Bool,
(∀ s11 : Sl,
((Ranged s11 [some .u16]) →
((q_Part (Int.tmod x5 (x6 + 2)) (x6 + 1) (decide (b8 = true)) s9 (decide (b10 = true)) s11) →
(p_Take x0 s1 s2 x3 x4 (decide (b8 = true)) s9 (decide (b10 = true)) s11) ∧
(∀ s12 : Sl,
((Ranged s12 [some .i64, some .i64, some .u8, some .i64]) →
(∀ x13 : Int,
((Rng .i64 x13) →
((q_Take x0 s1 s2 x3 x4 (decide (b8 = true)) s9 (decide (b10 = true)) s11 s12 x13) →
(((x13 ≠ 0) →
((Small s12) →
((((Sl.len s12) = 0) →
(p_awake ) ∧
(∀ b14 : Bool,
((q_awake  (decide (b14 = true))) →
(q_Oldest x0 s1 s2 x3 x4 x5 x6 (decide (b14 = true))) ∧ True))) ∧
(¬ ((Sl.len s12) = 0) →
(q_Oldest x0 s1 s2 x3 x4 x5 x6 (decide False)) ∧ True)))) ∧
(¬ (x13 ≠ 0) →
((Small s12) →
(∃ (J14 : Int → Sl → Prop) (M14 : Int → Sl → Nat), J14 0 Sl.nil ∧
(∀ x15 : Int,
((Rng .i64 x15) →
(∀ s16 : Sl,
(J14 x15 s16 →
(((x15 < (Sl.len s12)) →
((0 : Int) ≤ x15) ∧
(x15 < (Sl.len s12)) ∧
((Rng .i64 (Sl.int s12 x15 0)) →
((Rng .i64 (Sl.int s12 x15 1)) →
((Rng .u8 (Sl.int s12 x15 2)) →
((Rng .i64 (Sl.int s12 x15 3)) →
((((Sl.int s12 x15 3) ≥ 0) →
(q_Oldest x0 s1 s2 x3 x4 x5 x6 (decide False)) ∧ True) ∧
(¬ ((Sl.int s12 x15 3) ≥ 0) →
((((Sl.int s12 x15 2) ≠ 4) →
(q_Oldest x0 s1 s2 x3 x4 x5 x6 (decide False)) ∧ True) ∧
(¬ ((Sl.int s12 x15 2) ≠ 4) →
((((Sl.int s12 x15 0) ≠ x3) →
(q_Oldest x0 s1 s2 x3 x4 x5 x6 (decide False)) ∧ True) ∧
(¬ ((Sl.int s12 x15 0) ≠ x3) →
(((x15 > 0) →
(Rng .i64 (x15 - 1)) ∧
((0 : Int) ≤ (x15 - 1)) ∧
((x15 - 1) < (Sl.len s12)) ∧
((Rng .i64 (Sl.int s12 (x15 - 1) 1)) →
((((Sl.int s12 (x15 - 1) 1) ≥ (Sl.int s12 x15 1)) →
(q_Oldest x0 s1 s2 x3 x4 x5 x6 (decide False)) ∧ True) ∧
(¬ ((Sl.int s12 (x15 - 1) 1) ≥ (Sl.int s12 x15 1)) →
(V_Oldest_0 s12 J14 M14 x15 s16))))) ∧
(¬ (x15 > 0) →
(V_Oldest_0 s12 J14 M14 x15 s16)))))))))))))) ∧
(¬ (x15 < (Sl.len s12)) →
((Small s1) →
(∃ (J17 : Bool → Int → Prop) (M17 : Bool → Int → Nat), J17 (decide True) 0 ∧
(∀ b18 : Bool,
(∀ x19 : Int,
((Rng .i64 x19) →
(J17 (decide (b18 = true)) x19 →
(((x19 < (Sl.len s1)) →
(Rng .i64 (x0 + x19)) ∧
(p_Open x0 s1 s2 (x0 + x19)) ∧
(∀ x20 : Int,
((Rng .i64 x20) →
(∀ x21 : Int,
((Rng .i64 x21) →
((q_Open x0 s1 s2 (x0 + x19) x20 x21) →
(((x21 ≠ 0) →
(q_Oldest x0 s1 s2 x3 x4 x5 x6 (decide False)) ∧ True) ∧
(¬ (x21 ≠ 0) →
((Rng .i64 (Sl.int (Sl.mget s16 (x0 + x19) [(.int 0)]) 0 0)) →
((((Sl.int (Sl.mget s16 (x0 + x19) [(.int 0)]) 0 0) > 0) →
(((¬ (b18 = true)) →
(q_Oldest x0 s1 s2 x3 x4 x5 x6 (decide False)) ∧ True) ∧
(¬ (¬ (b18 = true)) →
(((x20 ≥ 0) →
(q_Oldest x0 s1 s2 x3 x4 x5 x6 (decide False)) ∧ True) ∧
(¬ (x20 ≥ 0) →
((((x0 + x19) ≥ x4) →
(q_Oldest x0 s1 s2 x3 x4 x5 x6 (decide False)) ∧ True) ∧
(¬ ((x0 + x19) ≥ x4) →
(V_Oldest_1 x0 x4 s16 J17 M17 b18 x19 x20)))))))) ∧
(¬ ((Sl.int (Sl.mget s16 (x0 + x19) [(.int 0)]) 0 0) > 0) →
(V_Oldest_1 x0 x4 s16 J17 M17 b18 x19 x20)))))))))))) ∧
(¬ (x19 < (Sl.len s1)) →
(p_awake ) ∧
(∀ b20 : Bool,
((q_awake  (decide (b20 = true))) →
(q_Oldest x0 s1 s2 x3 x4 x5 x6 (decide (b20 = true))) ∧ True)))))))))))))))))))))))))))))))))))))))))))))))))))
end Go.Sx.N
