/-
  The conditions of the functions. Conditions: none; printed by a program of our own.
-/
import Derived.Test.YtmhhcnaflklapaaGreatArrSpec
set_option maxRecDepth 20000
namespace Go.Sx.N
def V_Settles_0 (x0 : Int) (s1 : Sl) (s2 : Sl) (x3 : Int) (x4 : Int) (s5 : Sl) (s117 : Sl) (J118 : Int → Prop) (M118 : Int → Nat) (x119 : Int) (x120 : Int) (x122 : Int) : Prop :=
(Rng .i64 (x0 + x119)) ∧
((Rng .i64 (Sl.int (Sl.mget s117 (x0 + x119) [(.int 0)]) 0 0)) →
((((Sl.int (Sl.mget s117 (x0 + x119) [(.int 0)]) 0 0) = 0) →
(((x120 ≠ x122) →
(q_Settles x0 s1 s2 x3 x4 s5 (decide False)) ∧ True) ∧
(¬ (x120 ≠ x122) →
(Rng .i64 (x119 + 1)) ∧
(J118 (x119 + 1) ∧ M118 (x119 + 1) < M118 x119)))) ∧
(¬ ((Sl.int (Sl.mget s117 (x0 + x119) [(.int 0)]) 0 0) = 0) →
(Rng .i64 (x119 + 1)) ∧
(J118 (x119 + 1) ∧ M118 (x119 + 1) < M118 x119))))
def V_Settles_1 (x0 : Int) (s1 : Sl) (s2 : Sl) (x3 : Int) (x4 : Int) (s5 : Sl) (y7 : ByteArray) (b8 : Bool) (s9 : Sl) : Prop :=
(p_Settle x0 s1 s2 x3 x4 y7 (decide (b8 = true)) s9 0) ∧
(∀ x100 : Int,
((Rng .i64 x100) →
(∀ s101 : Sl,
((Ranged s101 [some .i64]) →
(∀ s102 : Sl,
((Ranged s102 [some .i64, some .i64, some .u8, some .i64]) →
(∀ x103 : Int,
((Rng .i64 x103) →
((q_Settle x0 s1 s2 x3 x4 y7 (decide (b8 = true)) s9 0 x100 s101 s102 x103) →
(((x103 ≠ 0) →
(p_Same x100 s101 s102 0 Sl.nil Sl.nil) ∧
(∀ b104 : Bool,
((q_Same x100 s101 s102 0 Sl.nil Sl.nil (decide (b104 = true))) →
(((b104 = true) →
(p_aAwake ) ∧
(∀ b105 : Bool,
((q_aAwake  (decide (b105 = true))) →
(q_Settles x0 s1 s2 x3 x4 s5 (decide (b105 = true))) ∧ True))) ∧
(¬ (b104 = true) →
(q_Settles x0 s1 s2 x3 x4 s5 (decide False)) ∧ True))))) ∧
(¬ (x103 ≠ 0) →
(p_Owed x0 s1 s2 x4) ∧
(∀ x104 : Int,
((Rng .i64 x104) →
(∀ x105 : Int,
((Rng .i64 x105) →
((q_Owed x0 s1 s2 x4 x104 x105) →
(p_Late x0 s1 s2 x4) ∧
(∀ s106 : Sl,
((Ranged s106 [some .i64]) →
(∀ x107 : Int,
((Rng .i64 x107) →
((q_Late x0 s1 s2 x4 s106 x107) →
(p_Late x100 s101 s102 x4) ∧
(∀ s108 : Sl,
((Ranged s108 [some .i64]) →
(∀ x109 : Int,
((Rng .i64 x109) →
((q_Late x100 s101 s102 x4 s108 x109) →
(p_Total x0 s1 s2 2) ∧
(∀ x110 : Int,
((Rng .i64 x110) →
(∀ x111 : Int,
((Rng .i64 x111) →
((q_Total x0 s1 s2 2 x110 x111) →
(p_Total x100 s101 s102 2) ∧
(∀ x112 : Int,
((Rng .i64 x112) →
(∀ x113 : Int,
((Rng .i64 x113) →
((q_Total x100 s101 s102 2 x112 x113) →
(Rng .i64 (x105 + x107)) ∧
(Rng .i64 ((x105 + x107) + x109)) ∧
(Rng .i64 (((x105 + x107) + x109) + x111)) ∧
(Rng .i64 ((((x105 + x107) + x109) + x111) + x113)) ∧
(((((((x105 + x107) + x109) + x111) + x113) ≠ 0) →
(q_Settles x0 s1 s2 x3 x4 s5 (decide False)) ∧ True) ∧
(¬ (((((x105 + x107) + x109) + x111) + x113) ≠ 0) →
((Small s108) →
((((Sl.len s108) ≠ 0) →
(q_Settles x0 s1 s2 x3 x4 s5 (decide False)) ∧ True) ∧
(¬ ((Sl.len s108) ≠ 0) →
(Rng .i64 (x112 - x110)) ∧
((((x112 - x110) ≠ x104) →
(q_Settles x0 s1 s2 x3 x4 s5 (decide False)) ∧ True) ∧
(¬ ((x112 - x110) ≠ x104) →
(p_Valid x100 s101 s102) ∧
(∀ b114 : Bool,
((q_Valid x100 s101 s102 (decide (b114 = true))) →
(((¬ (b114 = true)) →
(q_Settles x0 s1 s2 x3 x4 s5 (decide False)) ∧ True) ∧
(¬ (¬ (b114 = true)) →
((Small s106) →
(∃ (J115 : Int → Sl → Prop) (M115 : Int → Sl → Nat), J115 0 Sl.nil ∧
(∀ x116 : Int,
((Rng .i64 x116) →
(∀ s117 : Sl,
(J115 x116 s117 →
(((x116 < (Sl.len s106)) →
((0 : Int) ≤ x116) ∧
(x116 < (Sl.len s106)) ∧
((Rng .i64 (Sl.int s106 x116 0)) →
((Rng .i64 (Sl.int (Sl.mget s117 (Sl.int s106 x116 0) [(.int 0)]) 0 0)) →
(Rng .i64 ((Sl.int (Sl.mget s117 (Sl.int s106 x116 0) [(.int 0)]) 0 0) + 1)) ∧
(Rng .i64 (x116 + 1)) ∧
(J115 (x116 + 1) (Sl.mset s117 (Sl.int s106 x116 0) [(.int ((Sl.int (Sl.mget s117 (Sl.int s106 x116 0) [(.int 0)]) 0 0) + 1))]) ∧ M115 (x116 + 1) (Sl.mset s117 (Sl.int s106 x116 0) [(.int ((Sl.int (Sl.mget s117 (Sl.int s106 x116 0) [(.int 0)]) 0 0) + 1))]) < M115 x116 s117)))) ∧
(¬ (x116 < (Sl.len s106)) →
((Small s1) →
(∃ (J118 : Int → Prop) (M118 : Int → Nat), J118 0 ∧
(∀ x119 : Int,
((Rng .i64 x119) →
(J118 x119 →
(((x119 < (Sl.len s1)) →
(Rng .i64 (x0 + x119)) ∧
(p_Open x0 s1 s2 (x0 + x119)) ∧
(∀ x120 : Int,
((Rng .i64 x120) →
(∀ x121 : Int,
((Rng .i64 x121) →
((q_Open x0 s1 s2 (x0 + x119) x120 x121) →
(Rng .i64 (x0 + x119)) ∧
(p_Open x100 s101 s102 (x0 + x119)) ∧
(∀ x122 : Int,
((Rng .i64 x122) →
(∀ x123 : Int,
((Rng .i64 x123) →
((q_Open x100 s101 s102 (x0 + x119) x122 x123) →
(((x121 ≠ 0) →
(q_Settles x0 s1 s2 x3 x4 s5 (decide False)) ∧ True) ∧
(¬ (x121 ≠ 0) →
(((x123 ≠ 0) →
(q_Settles x0 s1 s2 x3 x4 s5 (decide False)) ∧ True) ∧
(¬ (x123 ≠ 0) →
(Rng .i64 (x0 + x119)) ∧
((Rng .i64 (Sl.int (Sl.mget s117 (x0 + x119) [(.int 0)]) 0 0)) →
((((Sl.int (Sl.mget s117 (x0 + x119) [(.int 0)]) 0 0) > 0) →
(((x120 ≤ 0) →
(q_Settles x0 s1 s2 x3 x4 s5 (decide False)) ∧ True) ∧
(¬ (x120 ≤ 0) →
(((x122 ≠ 0) →
(q_Settles x0 s1 s2 x3 x4 s5 (decide False)) ∧ True) ∧
(¬ (x122 ≠ 0) →
(V_Settles_0 x0 s1 s2 x3 x4 s5 s117 J118 M118 x119 x120 x122)))))) ∧
(¬ ((Sl.int (Sl.mget s117 (x0 + x119) [(.int 0)]) 0 0) > 0) →
(V_Settles_0 x0 s1 s2 x3 x4 s5 s117 J118 M118 x119 x120 x122))))))))))))))))))) ∧
(¬ (x119 < (Sl.len s1)) →
(p_aAwake ) ∧
(∀ b120 : Bool,
((q_aAwake  (decide (b120 = true))) →
(q_Settles x0 s1 s2 x3 x4 s5 (decide (b120 = true))) ∧ True))))))))))))))))))))))))))))))))))))))))))))))))))))))))))))))))
def V_Settles : Prop :=
(∀ x0 : Int,
((Rng .i64 x0) →
(∀ s1 : Sl,
((Ranged s1 [some .i64]) →
(∀ s2 : Sl,
((Ranged s2 [some .i64, some .i64, some .u8, some .i64]) →
(∀ x3 : Int,
((Rng .i64 x3) →
(∀ x4 : Int,
((Rng .i64 x4) →
(∀ s5 : Sl,
((Ranged s5 [some .u8]) →
((p_Settles x0 s1 s2 x3 x4 s5) →
(p_few x0 s1 s2 x4) ∧
(∀ b6 : Bool,
((q_few x0 s1 s2 x4 (decide (b6 = true))) →
(((¬ (b6 = true)) →
(p_aAwake ) ∧
(∀ b7 : Bool,
((q_aAwake  (decide (b7 = true))) →
(q_Settles x0 s1 s2 x3 x4 s5 (decide (b7 = true))) ∧ True))) ∧
(¬ (¬ (b6 = true)) →
(((p_rates s5) ∧
(∀ y7 : ByteArray,
(∀ b8 : Bool,
(∀ s9 : Sl,
((Ranged s9 [some .i64, some .i64, some .i64, none, none, none, none]) →
((q_rates s5 y7 (decide (b8 = true)) s9) →
(((V_Settles_1 x0 s1 s2 x3 x4 s5 y7 b8 s9)) ∧
((V_Settles_1 x0 s1 s2 x3 x4 s5 y7 b8 s9))))))))) ∧
((p_rates s5) ∧
(∀ y7 : ByteArray,
(∀ b8 : Bool,
(∀ s9 : Sl,
((Ranged s9 [some .i64, some .i64, some .i64, none, none, none, none]) →
((q_rates s5 y7 (decide (b8 = true)) s9) →
(V_Settles_1 x0 s1 s2 x3 x4 s5 y7 b8 s9)))))))))))))))))))))))))
end Go.Sx.N
