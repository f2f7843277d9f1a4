/-
  The conditions of the functions. Conditions: none; printed by a program of our own.
-/
import Derived.Test.YtdhjdigfoohofaaChgSpec
set_option maxRecDepth 20000
namespace Go.Sx.N
def V_Changes_0 (J127 : Sl → Int → Prop) (M127 : Sl → Int → Nat) (s128 : Sl) (x129 : Int) : Prop :=
((0 : Int) ≤ x129) ∧
(x129 < (Sl.len s128)) ∧
((Rng .i64 (Sl.int s128 x129 0)) →
(Rng .i64 ((Sl.int s128 x129 0) + 1)) ∧
((0 : Int) ≤ x129) ∧
(x129 < (Sl.len s128)) ∧
(Rng .i64 (x129 + 1)) ∧
(J127 (Sl.upd s128 x129 0 [(.int ((Sl.int s128 x129 0) + 1))]) (x129 + 1) ∧ M127 (Sl.upd s128 x129 0 [(.int ((Sl.int s128 x129 0) + 1))]) (x129 + 1) < M127 s128 x129))
def V_Changes_1 (J130 : Sl → Int → Prop) (M130 : Sl → Int → Nat) (s131 : Sl) (x132 : Int) : Prop :=
((0 : Int) ≤ x132) ∧
(x132 < (Sl.len s131)) ∧
((Rng .i64 (Sl.int s131 x132 3)) →
(Rng .i64 ((Sl.int s131 x132 3) + 1)) ∧
((0 : Int) ≤ x132) ∧
(x132 < (Sl.len s131)) ∧
(Rng .i64 (x132 + 1)) ∧
(J130 (Sl.upd s131 x132 3 [(.int ((Sl.int s131 x132 3) + 1))]) (x132 + 1) ∧ M130 (Sl.upd s131 x132 3 [(.int ((Sl.int s131 x132 3) + 1))]) (x132 + 1) < M130 s131 x132))
def V_Changes_2 (x0 : Int) (s1 : Sl) (s2 : Sl) (s3 : Sl) (x4 : Int) (x5 : Int) : Prop :=
((Small s3) →
((((Sl.len s3) > 4002) →
(p_awake ) ∧
(∀ b100 : Bool,
((q_awake  (decide (b100 = true))) →
(q_Changes x0 s1 s2 s3 x4 x5 (decide (b100 = true))) ∧ True))) ∧
(¬ ((Sl.len s3) > 4002) →
(p_copied x0 s1 s2) ∧
(∀ x100 : Int,
((Rng .i64 x100) →
(∀ s101 : Sl,
(∀ s102 : Sl,
((q_copied x0 s1 s2 x100 s101 s102) →
((((Sl.len (Sl.lit [])) + (Sl.len s3)) * 32) ≤ 140737488355328) ∧
(p_Post x0 s1 s2 s3) ∧
(∀ x103 : Int,
((Rng .i64 x103) →
(∀ s104 : Sl,
(∀ s105 : Sl,
(∀ x106 : Int,
((Rng .i64 x106) →
((q_Post x0 s1 s2 s3 x103 s104 s105 x106) →
(p_rPost x0 s101 s102 (Sl.app (Sl.lit []) s3)) ∧
(∀ x107 : Int,
((Rng .i64 x107) →
(∀ s108 : Sl,
(∀ s109 : Sl,
(∀ x110 : Int,
((Rng .i64 x110) →
((q_rPost x0 s101 s102 (Sl.app (Sl.lit []) s3) x107 s108 s109 x110) →
(p_Learn x0 s1 s2 x4 x5) ∧
(∀ x111 : Int,
((Rng .i64 x111) →
(∀ s112 : Sl,
(∀ s113 : Sl,
(∀ x114 : Int,
((Rng .i64 x114) →
((q_Learn x0 s1 s2 x4 x5 x111 s112 s113 x114) →
(p_rLearn x0 s101 s102 x4 x5) ∧
(∀ x115 : Int,
((Rng .i64 x115) →
(∀ s116 : Sl,
(∀ s117 : Sl,
(∀ x118 : Int,
((Rng .i64 x118) →
((q_rLearn x0 s101 s102 x4 x5 x115 s116 s117 x118) →
(((x106 ≠ x110) →
(q_Changes x0 s1 s2 s3 x4 x5 (decide False)) ∧ True) ∧
(¬ (x106 ≠ x110) →
(((x114 ≠ x118) →
(q_Changes x0 s1 s2 s3 x4 x5 (decide False)) ∧ True) ∧
(¬ (x114 ≠ x118) →
(p_Same x103 s104 s105 x107 s108 s109) ∧
(∀ b119 : Bool,
((q_Same x103 s104 s105 x107 s108 s109 (decide (b119 = true))) →
(((¬ (b119 = true)) →
(q_Changes x0 s1 s2 s3 x4 x5 (decide False)) ∧ True) ∧
(¬ (¬ (b119 = true)) →
(p_Same x111 s112 s113 x115 s116 s117) ∧
(∀ b120 : Bool,
((q_Same x111 s112 s113 x115 s116 s117 (decide (b120 = true))) →
(((¬ (b120 = true)) →
(q_Changes x0 s1 s2 s3 x4 x5 (decide False)) ∧ True) ∧
(¬ (¬ (b120 = true)) →
(∃ (J121 : Sl → Sl → Sl → Sl → Int → Prop) (M121 : Sl → Sl → Sl → Sl → Int → Nat), J121 s104 s105 s112 s113 0 ∧
(∀ s122 : Sl,
(∀ s123 : Sl,
(∀ s124 : Sl,
(∀ s125 : Sl,
(∀ x126 : Int,
((Rng .i64 x126) →
(J121 s122 s123 s124 s125 x126 →
(((x126 < 2) →
((0 : Int) ≤ x126) ∧
(x126 < 2) ∧
(((x126 = 0) →
((Small s122) →
(∃ (J127 : Sl → Int → Prop) (M127 : Sl → Int → Nat), J127 s122 0 ∧
(∀ s128 : Sl,
(∀ x129 : Int,
((Rng .i64 x129) →
(J127 s128 x129 →
(((x129 < (Sl.len s122)) →
(V_Changes_0 J127 M127 s128 x129)) ∧
(¬ (x129 < (Sl.len s122)) →
((Small s123) →
(∃ (J130 : Sl → Int → Prop) (M130 : Sl → Int → Nat), J130 s123 0 ∧
(∀ s131 : Sl,
(∀ x132 : Int,
((Rng .i64 x132) →
(J130 s131 x132 →
(((x132 < (Sl.len s123)) →
(V_Changes_1 J130 M130 s131 x132)) ∧
(¬ (x132 < (Sl.len s123)) →
(Rng .i64 (x126 + 1)) ∧
(J121 s128 s131 s124 s125 (x126 + 1) ∧ M121 s128 s131 s124 s125 (x126 + 1) < M121 s122 s123 s124 s125 x126)))))))))))))))))) ∧
(¬ (x126 = 0) →
((Small s124) →
(∃ (J127 : Sl → Int → Prop) (M127 : Sl → Int → Nat), J127 s124 0 ∧
(∀ s128 : Sl,
(∀ x129 : Int,
((Rng .i64 x129) →
(J127 s128 x129 →
(((x129 < (Sl.len s124)) →
(V_Changes_0 J127 M127 s128 x129)) ∧
(¬ (x129 < (Sl.len s124)) →
((Small s125) →
(∃ (J130 : Sl → Int → Prop) (M130 : Sl → Int → Nat), J130 s125 0 ∧
(∀ s131 : Sl,
(∀ x132 : Int,
((Rng .i64 x132) →
(J130 s131 x132 →
(((x132 < (Sl.len s125)) →
(V_Changes_1 J130 M130 s131 x132)) ∧
(¬ (x132 < (Sl.len s125)) →
(Rng .i64 (x126 + 1)) ∧
(J121 s122 s123 s128 s131 (x126 + 1) ∧ M121 s122 s123 s128 s131 (x126 + 1) < M121 s122 s123 s124 s125 x126)))))))))))))))))))) ∧
(¬ (x126 < 2) →
((Small s3) →
(∃ (J127 : Int → Prop) (M127 : Int → Nat), J127 0 ∧
(∀ x128 : Int,
((Rng .i64 x128) →
(J127 x128 →
(((x128 < (Sl.len s3)) →
((0 : Int) ≤ x128) ∧
(x128 < (Sl.len s3)) ∧
((Rng .i64 (Sl.int s3 x128 0)) →
((Rng .i64 (Sl.int s3 x128 1)) →
((Rng .u8 (Sl.int s3 x128 2)) →
((Rng .i64 (Sl.int s3 x128 3)) →
((0 : Int) ≤ x128) ∧
(x128 < (Sl.len (Sl.app (Sl.lit []) s3))) ∧
((Rng .i64 (Sl.int (Sl.app (Sl.lit []) s3) x128 0)) →
((Rng .i64 (Sl.int (Sl.app (Sl.lit []) s3) x128 1)) →
((Rng .u8 (Sl.int (Sl.app (Sl.lit []) s3) x128 2)) →
((Rng .i64 (Sl.int (Sl.app (Sl.lit []) s3) x128 3)) →
(((¬ (((Sl.int s3 x128 0) = (Sl.int (Sl.app (Sl.lit []) s3) x128 0)) ∧ (((Sl.int s3 x128 1) = (Sl.int (Sl.app (Sl.lit []) s3) x128 1)) ∧ (((Sl.int s3 x128 2) = (Sl.int (Sl.app (Sl.lit []) s3) x128 2)) ∧ ((Sl.int s3 x128 3) = (Sl.int (Sl.app (Sl.lit []) s3) x128 3)))))) →
(q_Changes x0 s1 s2 s3 x4 x5 (decide False)) ∧ True) ∧
(¬ (¬ (((Sl.int s3 x128 0) = (Sl.int (Sl.app (Sl.lit []) s3) x128 0)) ∧ (((Sl.int s3 x128 1) = (Sl.int (Sl.app (Sl.lit []) s3) x128 1)) ∧ (((Sl.int s3 x128 2) = (Sl.int (Sl.app (Sl.lit []) s3) x128 2)) ∧ ((Sl.int s3 x128 3) = (Sl.int (Sl.app (Sl.lit []) s3) x128 3)))))) →
(Rng .i64 (x128 + 1)) ∧
(J127 (x128 + 1) ∧ M127 (x128 + 1) < M127 x128)))))))))))) ∧
(¬ (x128 < (Sl.len s3)) →
(p_Same x0 s1 s2 x100 s101 s102) ∧
(∀ b129 : Bool,
((q_Same x0 s1 s2 x100 s101 s102 (decide (b129 = true))) →
(((b129 = true) →
(p_awake ) ∧
(∀ b130 : Bool,
((q_awake  (decide (b130 = true))) →
(q_Changes x0 s1 s2 s3 x4 x5 (decide (b130 = true))) ∧ True))) ∧
(¬ (b129 = true) →
(q_Changes x0 s1 s2 s3 x4 x5 (decide False)) ∧ True)))))))))))))))))))))))))))))))))))))))))))))))))))))))))))))))))))))
def V_Changes : Prop :=
(∀ x0 : Int,
((Rng .i64 x0) →
(∀ s1 : Sl,
(∀ s2 : Sl,
(∀ s3 : Sl,
(∀ x4 : Int,
((Rng .i64 x4) →
(∀ x5 : Int,
((Rng .i64 x5) →
((p_Changes x0 s1 s2 s3 x4 x5) →
(p_Few x0 s1 s2) ∧
(∀ b6 : Bool,
((q_Few x0 s1 s2 (decide (b6 = true))) →
(((¬ (b6 = true)) →
(p_awake ) ∧
(∀ b7 : Bool,
((q_awake  (decide (b7 = true))) →
(q_Changes x0 s1 s2 s3 x4 x5 (decide (b7 = true))) ∧ True))) ∧
(¬ (¬ (b6 = true)) →
((Small s3) →
((((Sl.len s3) > 20) →
((Small s3) →
((((Sl.len s3) ≤ 4000) →
(p_awake ) ∧
(∀ b7 : Bool,
((q_awake  (decide (b7 = true))) →
(q_Changes x0 s1 s2 s3 x4 x5 (decide (b7 = true))) ∧ True))) ∧
(¬ ((Sl.len s3) ≤ 4000) →
(V_Changes_2 x0 s1 s2 s3 x4 x5))))) ∧
(¬ ((Sl.len s3) > 20) →
(V_Changes_2 x0 s1 s2 s3 x4 x5))))))))))))))))))
end Go.Sx.N
