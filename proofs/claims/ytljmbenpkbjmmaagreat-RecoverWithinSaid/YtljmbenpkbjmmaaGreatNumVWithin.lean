/-
  The conditions of the functions. Conditions: none; printed by a program of our own.
-/
import Derived.Test.YtljmbenpkbjmmaaGreatRecSpec
namespace Go.Sx.N
def V_Within_0 (x0 : Int) (s1 : Sl) (s2 : Sl) (x3 : Int) (x4 : Int) (x5 : Int) (x6 : Int) (J27 : Int → Prop) (M27 : Int → Nat) (x28 : Int) (x29 : Int) (x31 : Int) : Prop :=
(Rng .i64 (x0 + x28)) ∧
((((x0 + x28) ≥ x4) →
(((x29 ≠ x31) →
(q_Within x0 s1 s2 x3 x4 x5 x6 (decide False)) ∧ True) ∧
(¬ (x29 ≠ x31) →
(Rng .i64 (x28 + 1)) ∧
(J27 (x28 + 1) ∧ M27 (x28 + 1) < M27 x28)))) ∧
(¬ ((x0 + x28) ≥ x4) →
(Rng .i64 (x28 + 1)) ∧
(J27 (x28 + 1) ∧ M27 (x28 + 1) < M27 x28)))
def V_Within_1 (x0 : Int) (s1 : Sl) (s2 : Sl) (x3 : Int) (x4 : Int) (x5 : Int) (x6 : Int) (J27 : Int → Prop) (M27 : Int → Nat) (x28 : Int) (x29 : Int) (x31 : Int) : Prop :=
(((x29 < 0) →
(((x31 < x29) →
(q_Within x0 s1 s2 x3 x4 x5 x6 (decide False)) ∧ True) ∧
(¬ (x31 < x29) →
(((x31 > 0) →
(q_Within x0 s1 s2 x3 x4 x5 x6 (decide False)) ∧ True) ∧
(¬ (x31 > 0) →
(V_Within_0 x0 s1 s2 x3 x4 x5 x6 J27 M27 x28 x29 x31)))))) ∧
(¬ (x29 < 0) →
(V_Within_0 x0 s1 s2 x3 x4 x5 x6 J27 M27 x28 x29 x31)))
def V_Within : Prop :=
(∀ x0 : Int,
((Rng .i64 x0) →
(∀ s1 : Sl,
((Ranged s1 [some .i64]) →
(∀ s2 : Sl,
((Ranged s2 [some .i64, some .i64, some .u8, some .i64]) →
(∀ x3 : Int,
((Rng .i64 x3) →
(∀ x4 : Int,
((Rng .i64 x4) →
(∀ x5 : Int,
((Rng .u8 x5) →
(∀ x6 : Int,
((Rng .u8 x6) →
((p_Within x0 s1 s2 x3 x4 x5 x6) →
(p_few x0 s1 s2) ∧
(∀ b7 : Bool,
((q_few x0 s1 s2 (decide (b7 = true))) →
(((¬ (b7 = true)) →
(p_awake ) ∧
(∀ b8 : Bool,
((q_awake  (decide (b8 = true))) →
(q_Within x0 s1 s2 x3 x4 x5 x6 (decide (b8 = true))) ∧ True))) ∧
(¬ (¬ (b7 = true)) →
(Rng .i64 (x6 + 2)) ∧
((x6 + 2) ≠ 0) ∧
(Rng .i64 (Int.tmod x5 (x6 + 2))) ∧
(Rng .i64 (x6 + 1)) ∧
(p_Part (Int.tmod x5 (x6 + 2)) (x6 + 1)) ∧
(∀ b8 : Bool,
(∀ s9 : Sl,
((Ranged s9 [some .u16]) →
(∀ b10 : Bool,
(∀ s11 : Sl,
((Ranged s11 [some .u16]) →
((q_Part (Int.tmod x5 (x6 + 2)) (x6 + 1) (decide (b8 = true)) s9 (decide (b10 = true)) s11) →
(p_Apply x0 s1 s2 x3 x4 (decide (b8 = true)) s9 (decide (b10 = true)) s11) ∧
(∀ x12 : Int,
((Rng .i64 x12) →
(∀ s13 : Sl,
((Ranged s13 [some .i64]) →
(∀ s14 : Sl,
((Ranged s14 [some .i64, some .i64, some .u8, some .i64]) →
(∀ x15 : Int,
((Rng .i64 x15) →
((q_Apply x0 s1 s2 x3 x4 (decide (b8 = true)) s9 (decide (b10 = true)) s11 x12 s13 s14 x15) →
(((x15 ≠ 0) →
(p_Same x12 s13 s14 0 Sl.nil Sl.nil) ∧
(∀ b16 : Bool,
((q_Same x12 s13 s14 0 Sl.nil Sl.nil (decide (b16 = true))) →
(((b16 = true) →
(p_awake ) ∧
(∀ b17 : Bool,
((q_awake  (decide (b17 = true))) →
(q_Within x0 s1 s2 x3 x4 x5 x6 (decide (b17 = true))) ∧ True))) ∧
(¬ (b16 = true) →
(q_Within x0 s1 s2 x3 x4 x5 x6 (decide False)) ∧ True))))) ∧
(¬ (x15 ≠ 0) →
(p_Limit x0 s1 s2 x4 (decide (b8 = true)) s9 (decide (b10 = true)) s11) ∧
(∀ x16 : Int,
((Rng .i64 x16) →
(∀ x17 : Int,
((Rng .i64 x17) →
((q_Limit x0 s1 s2 x4 (decide (b8 = true)) s9 (decide (b10 = true)) s11 x16 x17) →
(p_Outstanding x0 s1 s2 x4) ∧
(∀ x18 : Int,
((Rng .i64 x18) →
(∀ x19 : Int,
((Rng .i64 x19) →
((q_Outstanding x0 s1 s2 x4 x18 x19) →
(p_Outstanding x12 s13 s14 x4) ∧
(∀ x20 : Int,
((Rng .i64 x20) →
(∀ x21 : Int,
((Rng .i64 x21) →
((q_Outstanding x12 s13 s14 x4 x20 x21) →
(p_Total x0 s1 s2 4) ∧
(∀ x22 : Int,
((Rng .i64 x22) →
(∀ x23 : Int,
((Rng .i64 x23) →
((q_Total x0 s1 s2 4 x22 x23) →
(p_Total x12 s13 s14 4) ∧
(∀ x24 : Int,
((Rng .i64 x24) →
(∀ x25 : Int,
((Rng .i64 x25) →
((q_Total x12 s13 s14 4 x24 x25) →
(Rng .i64 (x17 + x19)) ∧
(Rng .i64 ((x17 + x19) + x21)) ∧
(Rng .i64 (((x17 + x19) + x21) + x23)) ∧
(Rng .i64 ((((x17 + x19) + x21) + x23) + x25)) ∧
(((((((x17 + x19) + x21) + x23) + x25) ≠ 0) →
(q_Within x0 s1 s2 x3 x4 x5 x6 (decide False)) ∧ True) ∧
(¬ (((((x17 + x19) + x21) + x23) + x25) ≠ 0) →
(Rng .i64 (x22 - x24)) ∧
((((x22 - x24) ≠ (imin x16 x18)) →
(q_Within x0 s1 s2 x3 x4 x5 x6 (decide False)) ∧ True) ∧
(¬ ((x22 - x24) ≠ (imin x16 x18)) →
(Rng .i64 (x22 - x24)) ∧
(Rng .i64 (x18 - (x22 - x24))) ∧
(((x20 ≠ (x18 - (x22 - x24))) →
(q_Within x0 s1 s2 x3 x4 x5 x6 (decide False)) ∧ True) ∧
(¬ (x20 ≠ (x18 - (x22 - x24))) →
(p_Valid x12 s13 s14) ∧
(∀ b26 : Bool,
((q_Valid x12 s13 s14 (decide (b26 = true))) →
(((¬ (b26 = true)) →
(q_Within x0 s1 s2 x3 x4 x5 x6 (decide False)) ∧ True) ∧
(¬ (¬ (b26 = true)) →
((Small s1) →
(∃ (J27 : Int → Prop) (M27 : Int → Nat), J27 0 ∧
(∀ x28 : Int,
((Rng .i64 x28) →
(J27 x28 →
(((x28 < (Sl.len s1)) →
(Rng .i64 (x0 + x28)) ∧
(p_Open x0 s1 s2 (x0 + x28)) ∧
(∀ x29 : Int,
((Rng .i64 x29) →
(∀ x30 : Int,
((Rng .i64 x30) →
((q_Open x0 s1 s2 (x0 + x28) x29 x30) →
(Rng .i64 (x0 + x28)) ∧
(p_Open x12 s13 s14 (x0 + x28)) ∧
(∀ x31 : Int,
((Rng .i64 x31) →
(∀ x32 : Int,
((Rng .i64 x32) →
((q_Open x12 s13 s14 (x0 + x28) x31 x32) →
(((x30 ≠ 0) →
(q_Within x0 s1 s2 x3 x4 x5 x6 (decide False)) ∧ True) ∧
(¬ (x30 ≠ 0) →
(((x32 ≠ 0) →
(q_Within x0 s1 s2 x3 x4 x5 x6 (decide False)) ∧ True) ∧
(¬ (x32 ≠ 0) →
(((x29 ≥ 0) →
(((x31 ≠ x29) →
(q_Within x0 s1 s2 x3 x4 x5 x6 (decide False)) ∧ True) ∧
(¬ (x31 ≠ x29) →
(V_Within_1 x0 s1 s2 x3 x4 x5 x6 J27 M27 x28 x29 x31)))) ∧
(¬ (x29 ≥ 0) →
(V_Within_1 x0 s1 s2 x3 x4 x5 x6 J27 M27 x28 x29 x31)))))))))))))))))) ∧
(¬ (x28 < (Sl.len s1)) →
(p_awake ) ∧
(∀ b29 : Bool,
((q_awake  (decide (b29 = true))) →
(q_Within x0 s1 s2 x3 x4 x5 x6 (decide (b29 = true))) ∧ True)))))))))))))))))))))))))))))))))))))))))))))))))))))))))))))))))))))))))))))))))
end Go.Sx.N
