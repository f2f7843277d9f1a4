/-
  The conditions of the functions. Conditions: none; printed by a program of our own.
-/
import Derived.Test.YtmhhcnaflklapaaGreatArrSpec
set_option maxRecDepth 20000
namespace Go.Sx.N
def V_aShort : Prop :=
(∀ b0 : Bool,
(∀ s1 : Sl,
((Ranged s1 [some .u16]) →
(∀ b2 : Bool,
(∀ s3 : Sl,
((Ranged s3 [some .u16]) →
((p_aShort (decide (b0 = true)) s1 (decide (b2 = true)) s3) →
((Small s1) →
((((Sl.len s1) ≤ 120) →
((Small s3) →
(q_aShort (decide (b0 = true)) s1 (decide (b2 = true)) s3 (decide ((Sl.len s3) ≤ 120))) ∧ True)) ∧
(¬ ((Sl.len s1) ≤ 120) →
(q_aShort (decide (b0 = true)) s1 (decide (b2 = true)) s3 (decide False)) ∧ True))))))))))
def V_aFirst : Prop :=
(∀ s0 : Sl,
((Ranged s0 [some .i64]) →
((p_aFirst s0) →
((Small s0) →
(∃ (J1 : Int → Prop) (M1 : Int → Nat), J1 0 ∧
(∀ x2 : Int,
((Rng .i64 x2) →
(J1 x2 →
(((x2 < (Sl.len s0)) →
((0 : Int) ≤ x2) ∧
(x2 < (Sl.len s0)) ∧
((Rng .i64 (Sl.int s0 x2 0)) →
((((Sl.int s0 x2 0) ≠ 0) →
(q_aFirst s0 (Sl.int s0 x2 0)) ∧ True) ∧
(¬ ((Sl.int s0 x2 0) ≠ 0) →
(Rng .i64 (x2 + 1)) ∧
(J1 (x2 + 1) ∧ M1 (x2 + 1) < M1 x2))))) ∧
(¬ (x2 < (Sl.len s0)) →
(q_aFirst s0 0) ∧ True))))))))))
def V_aAmount_0 (b0 : Bool) (s1 : Sl) (b2 : Bool) (s3 : Sl) (b4 : Bool) (s5 : Sl) (b6 : Bool) (s7 : Sl) : Prop :=
(p_fRound (decide (b0 = true)) s1 (decide (b2 = true)) s3 (decide (b4 = true)) s5 (decide (b6 = true)) s7 5) ∧
(∀ b8 : Bool,
(∀ s9 : Sl,
((Ranged s9 [some .u16]) →
(∀ b10 : Bool,
(∀ s11 : Sl,
((Ranged s11 [some .u16]) →
(∀ x12 : Int,
((Rng .i64 x12) →
((q_fRound (decide (b0 = true)) s1 (decide (b2 = true)) s3 (decide (b4 = true)) s5 (decide (b6 = true)) s7 5 (decide (b8 = true)) s9 (decide (b10 = true)) s11 x12) →
(((x12 ≠ 0) →
(q_aAmount (decide (b0 = true)) s1 (decide (b2 = true)) s3 0 x12) ∧ True) ∧
(¬ (x12 ≠ 0) →
(p_fFromInt 0) ∧
(∀ b13 : Bool,
(∀ s14 : Sl,
((Ranged s14 [some .u16]) →
(∀ b15 : Bool,
(∀ s16 : Sl,
((Ranged s16 [some .u16]) →
((q_fFromInt 0 (decide (b13 = true)) s14 (decide (b15 = true)) s16) →
(p_fCmp (decide (b8 = true)) s9 (decide (b10 = true)) s11 (decide (b13 = true)) s14 (decide (b15 = true)) s16) ∧
(∀ x17 : Int,
((Rng .i64 x17) →
((q_fCmp (decide (b8 = true)) s9 (decide (b10 = true)) s11 (decide (b13 = true)) s14 (decide (b15 = true)) s16 x17) →
(((x17 < 0) →
(q_aAmount (decide (b0 = true)) s1 (decide (b2 = true)) s3 0 0) ∧ True) ∧
(¬ (x17 < 0) →
(p_fFromInt 1099511627776) ∧
(∀ b18 : Bool,
(∀ s19 : Sl,
((Ranged s19 [some .u16]) →
(∀ b20 : Bool,
(∀ s21 : Sl,
((Ranged s21 [some .u16]) →
((q_fFromInt 1099511627776 (decide (b18 = true)) s19 (decide (b20 = true)) s21) →
(p_fCmp (decide (b8 = true)) s9 (decide (b10 = true)) s11 (decide (b18 = true)) s19 (decide (b20 = true)) s21) ∧
(∀ x22 : Int,
((Rng .i64 x22) →
((q_fCmp (decide (b8 = true)) s9 (decide (b10 = true)) s11 (decide (b18 = true)) s19 (decide (b20 = true)) s21 x22) →
(((x22 > 0) →
(q_aAmount (decide (b0 = true)) s1 (decide (b2 = true)) s3 0 3) ∧ True) ∧
(¬ (x22 > 0) →
(p_fInt (decide (b8 = true)) s9 (decide (b10 = true)) s11) ∧
(∀ x23 : Int,
((Rng .i64 x23) →
(∀ x24 : Int,
((Rng .i64 x24) →
((q_fInt (decide (b8 = true)) s9 (decide (b10 = true)) s11 x23 x24) →
(q_aAmount (decide (b0 = true)) s1 (decide (b2 = true)) s3 x23 x24) ∧ True))))))))))))))))))))))))))))))))))))))))
def V_aAmount_1 (b0 : Bool) (s1 : Sl) (b2 : Bool) (s3 : Sl) (b4 : Bool) (s5 : Sl) (b6 : Bool) (s7 : Sl) : Prop :=
((V_aAmount_0 b0 s1 b2 s3 b4 s5 b6 s7))
def V_aAmount : Prop :=
(∀ b0 : Bool,
(∀ s1 : Sl,
((Ranged s1 [some .u16]) →
(∀ b2 : Bool,
(∀ s3 : Sl,
((Ranged s3 [some .u16]) →
((p_aAmount (decide (b0 = true)) s1 (decide (b2 = true)) s3) →
(((p_fFromInt 1) ∧
(∀ b4 : Bool,
(∀ s5 : Sl,
((Ranged s5 [some .u16]) →
(∀ b6 : Bool,
(∀ s7 : Sl,
((Ranged s7 [some .u16]) →
((q_fFromInt 1 (decide (b4 = true)) s5 (decide (b6 = true)) s7) →
((V_aAmount_1 b0 s1 b2 s3 b4 s5 b6 s7) ∧
(V_aAmount_1 b0 s1 b2 s3 b4 s5 b6 s7)))))))))) ∧
((p_fFromInt 1) ∧
(∀ b4 : Bool,
(∀ s5 : Sl,
((Ranged s5 [some .u16]) →
(∀ b6 : Bool,
(∀ s7 : Sl,
((Ranged s7 [some .u16]) →
((q_fFromInt 1 (decide (b4 = true)) s5 (decide (b6 = true)) s7) →
(V_aAmount_0 b0 s1 b2 s3 b4 s5 b6 s7)))))))))))))))))
def G_0 (x124 : Int) (K : Int → Int → ByteArray → Bool → Sl → Int → Int → Sl → Sl → Int → Prop) (y107 : ByteArray) (b108 : Bool) (s109 : Sl) (x110 : Int) (x111 : Int) (s112 : Sl) (s113 : Sl) (x114 : Int) (J100 : Int → Int → ByteArray → Bool → Sl → Int → Int → Sl → Sl → Int → Bool → Sl → Bool → Sl → Prop) : Prop :=
((x124 ≠ 0) →
(((x124 ≠ 0) → K 0 x124 y107 (decide (b108 = true)) s109 x110 x111 s112 s113 x114) ∧
(¬ (x124 ≠ 0) → J100 0 0 y107 (decide (b108 = true)) s109 x110 x111 s112 s113 x114 (decide False) Sl.nil (decide False) Sl.nil)))
def G_1 (xd : Int) (y33 : ByteArray) (b34 : Bool) (s35 : Sl) (x36 : Int) (x37 : Int) (s38 : Sl) (s39 : Sl) (x40 : Int) (K : Int → Int → ByteArray → Bool → Sl → Int → Int → Sl → Sl → Int → Prop) (J100 : Int → Int → ByteArray → Bool → Sl → Int → Int → Sl → Sl → Int → Bool → Sl → Bool → Sl → Prop) : Prop :=
(p_fFromInt 0) ∧
(∀ b101 : Bool,
(∀ s102 : Sl,
((Ranged s102 [some .u16]) →
(∀ b103 : Bool,
(∀ s104 : Sl,
((Ranged s104 [some .u16]) →
((q_fFromInt 0 (decide (b101 = true)) s102 (decide (b103 = true)) s104) →
(∃ (J105 : Int → ByteArray → Bool → Sl → Int → Int → Sl → Sl → Int → Bool → Sl → Bool → Sl → Bool → Sl → Bool → Sl → Prop) (M105 : Int → ByteArray → Bool → Sl → Int → Int → Sl → Sl → Int → Bool → Sl → Bool → Sl → Bool → Sl → Bool → Sl → Nat), J105 xd y33 (decide (b34 = true)) s35 x36 x37 s38 s39 x40 (decide False) Sl.nil (decide False) Sl.nil (decide (b101 = true)) s102 (decide (b103 = true)) s104 ∧
(∀ x106 : Int,
((Rng .i64 x106) →
(∀ y107 : ByteArray,
(∀ b108 : Bool,
(∀ s109 : Sl,
((Ranged s109 [some .i64, some .i64, some .i64, none, none, none, none]) →
(∀ x110 : Int,
((Rng .i64 x110) →
(∀ x111 : Int,
((Rng .i64 x111) →
(∀ s112 : Sl,
(∀ s113 : Sl,
(∀ x114 : Int,
((Rng .i64 x114) →
(∀ b115 : Bool,
(∀ s116 : Sl,
((Ranged s116 [some .u16]) →
(∀ b117 : Bool,
(∀ s118 : Sl,
((Ranged s118 [some .u16]) →
(∀ b119 : Bool,
(∀ s120 : Sl,
((Ranged s120 [some .u16]) →
(∀ b121 : Bool,
(∀ s122 : Sl,
((Ranged s122 [some .u16]) →
(J105 x106 y107 (decide (b108 = true)) s109 x110 x111 s112 s113 x114 (decide (b115 = true)) s116 (decide (b117 = true)) s118 (decide (b119 = true)) s120 (decide (b121 = true)) s122 →
(((x106 < x111) →
((12 : Int) ≠ 0) ∧
(Rng .i64 (Int.tdiv x106 12)) ∧
(Rng .i64 (1900 + (Int.tdiv x106 12))) ∧
((Ranged (Sl.sub (Sl.mget s112 (1900 + (Int.tdiv x106 12)) [(.bool (decide False)), (Sl.d Sl.nil), (.bool (decide False)), (Sl.d Sl.nil)]) 0 1) [some .u16]) →
((Ranged (Sl.sub (Sl.mget s112 (1900 + (Int.tdiv x106 12)) [(.bool (decide False)), (Sl.d Sl.nil), (.bool (decide False)), (Sl.d Sl.nil)]) 0 3) [some .u16]) →
(((Sl.mhas s112 (1900 + (Int.tdiv x106 12)) = true) →
((((0 : Int) ≠ 0) →
((((0 : Int) ≠ 0) → K 0 0 y107 (decide (b108 = true)) s109 x110 x111 s112 s113 x114) ∧
(¬ ((0 : Int) ≠ 0) → J100 0 0 y107 (decide (b108 = true)) s109 x110 x111 s112 s113 x114 (decide False) Sl.nil (decide False) Sl.nil))) ∧
(¬ ((0 : Int) ≠ 0) →
(∃ J123 : Int → Bool → Sl → Bool → Sl → Prop,
(((p_fAdd (decide (b119 = true)) s120 (decide (b121 = true)) s122 (decide (Sl.bool (Sl.mget s112 (1900 + (Int.tdiv x106 12)) [(.bool (decide False)), (Sl.d Sl.nil), (.bool (decide False)), (Sl.d Sl.nil)]) 0 0 = true)) (Sl.sub (Sl.mget s112 (1900 + (Int.tdiv x106 12)) [(.bool (decide False)), (Sl.d Sl.nil), (.bool (decide False)), (Sl.d Sl.nil)]) 0 1) (decide (Sl.bool (Sl.mget s112 (1900 + (Int.tdiv x106 12)) [(.bool (decide False)), (Sl.d Sl.nil), (.bool (decide False)), (Sl.d Sl.nil)]) 0 2 = true)) (Sl.sub (Sl.mget s112 (1900 + (Int.tdiv x106 12)) [(.bool (decide False)), (Sl.d Sl.nil), (.bool (decide False)), (Sl.d Sl.nil)]) 0 3)) ∧
(∀ b124 : Bool,
(∀ s125 : Sl,
((Ranged s125 [some .u16]) →
(∀ b126 : Bool,
(∀ s127 : Sl,
((Ranged s127 [some .u16]) →
(∀ x128 : Int,
((Rng .i64 x128) →
((q_fAdd (decide (b119 = true)) s120 (decide (b121 = true)) s122 (decide (Sl.bool (Sl.mget s112 (1900 + (Int.tdiv x106 12)) [(.bool (decide False)), (Sl.d Sl.nil), (.bool (decide False)), (Sl.d Sl.nil)]) 0 0 = true)) (Sl.sub (Sl.mget s112 (1900 + (Int.tdiv x106 12)) [(.bool (decide False)), (Sl.d Sl.nil), (.bool (decide False)), (Sl.d Sl.nil)]) 0 1) (decide (Sl.bool (Sl.mget s112 (1900 + (Int.tdiv x106 12)) [(.bool (decide False)), (Sl.d Sl.nil), (.bool (decide False)), (Sl.d Sl.nil)]) 0 2 = true)) (Sl.sub (Sl.mget s112 (1900 + (Int.tdiv x106 12)) [(.bool (decide False)), (Sl.d Sl.nil), (.bool (decide False)), (Sl.d Sl.nil)]) 0 3) (decide (b124 = true)) s125 (decide (b126 = true)) s127 x128) → J123 x128 (decide (b124 = true)) s125 (decide (b126 = true)) s127)))))))))) ∧
((∀ x124 : Int,
((Rng .i64 x124) →
(∀ b125 : Bool,
(∀ s126 : Sl,
((Ranged s126 [some .u16]) →
(∀ b127 : Bool,
(∀ s128 : Sl,
((Ranged s128 [some .u16]) →
(J123 x124 (decide (b125 = true)) s126 (decide (b127 = true)) s128 →
((G_0 x124 K y107 b108 s109 x110 x111 s112 s113 x114 J100) ∧
(¬ (x124 ≠ 0) →
(Rng .i64 (x106 + 1)) ∧
(J105 (x106 + 1) y107 (decide (b108 = true)) s109 x110 x111 s112 s113 x114 (decide (b115 = true)) s116 (decide (b117 = true)) s118 (decide (b125 = true)) s126 (decide (b127 = true)) s128 ∧ M105 (x106 + 1) y107 (decide (b108 = true)) s109 x110 x111 s112 s113 x114 (decide (b115 = true)) s116 (decide (b117 = true)) s118 (decide (b125 = true)) s126 (decide (b127 = true)) s128 < M105 x106 y107 (decide (b108 = true)) s109 x110 x111 s112 s113 x114 (decide (b115 = true)) s116 (decide (b117 = true)) s118 (decide (b119 = true)) s120 (decide (b121 = true)) s122)))))))))))))))))) ∧
(¬ (Sl.mhas s112 (1900 + (Int.tdiv x106 12)) = true) →
(p_Look y107 (decide (b108 = true)) s109 (1900 + (Int.tdiv x106 12)) x110) ∧
(∀ b123 : Bool,
(∀ s124 : Sl,
((Ranged s124 [some .u16]) →
(∀ b125 : Bool,
(∀ s126 : Sl,
((Ranged s126 [some .u16]) →
(∀ x127 : Int,
((Rng .i64 x127) →
((q_Look y107 (decide (b108 = true)) s109 (1900 + (Int.tdiv x106 12)) x110 (decide (b123 = true)) s124 (decide (b125 = true)) s126 x127) →
(∃ J128 : ByteArray → Bool → Sl → Int → Int → Sl → Sl → Int → Prop,
(((((x127 = 0) → J128 y107 (decide (b108 = true)) s109 x110 x111 (Sl.mset s112 (1900 + (Int.tdiv x106 12)) [(.bool (decide (b123 = true))), (Sl.d s124), (.bool (decide (b125 = true))), (Sl.d s126)]) s113 x114) ∧
(¬ (x127 = 0) → J128 y107 (decide (b108 = true)) s109 x110 x111 s112 s113 x114))) ∧
((∀ y129 : ByteArray,
(∀ b130 : Bool,
(∀ s131 : Sl,
((Ranged s131 [some .i64, some .i64, some .i64, none, none, none, none]) →
(∀ x132 : Int,
((Rng .i64 x132) →
(∀ x133 : Int,
((Rng .i64 x133) →
(∀ s134 : Sl,
(∀ s135 : Sl,
(∀ x136 : Int,
((Rng .i64 x136) →
(J128 y129 (decide (b130 = true)) s131 x132 x133 s134 s135 x136 →
((G_0 x127 K y129 b130 s131 x132 x133 s134 s135 x136 J100) ∧
(¬ (x127 ≠ 0) →
(∃ J137 : Int → Bool → Sl → Bool → Sl → Prop,
(((p_fAdd (decide (b119 = true)) s120 (decide (b121 = true)) s122 (decide (b123 = true)) s124 (decide (b125 = true)) s126) ∧
(∀ b138 : Bool,
(∀ s139 : Sl,
((Ranged s139 [some .u16]) →
(∀ b140 : Bool,
(∀ s141 : Sl,
((Ranged s141 [some .u16]) →
(∀ x142 : Int,
((Rng .i64 x142) →
((q_fAdd (decide (b119 = true)) s120 (decide (b121 = true)) s122 (decide (b123 = true)) s124 (decide (b125 = true)) s126 (decide (b138 = true)) s139 (decide (b140 = true)) s141 x142) → J137 x142 (decide (b138 = true)) s139 (decide (b140 = true)) s141)))))))))) ∧
((∀ x138 : Int,
((Rng .i64 x138) →
(∀ b139 : Bool,
(∀ s140 : Sl,
((Ranged s140 [some .u16]) →
(∀ b141 : Bool,
(∀ s142 : Sl,
((Ranged s142 [some .u16]) →
(J137 x138 (decide (b139 = true)) s140 (decide (b141 = true)) s142 →
((G_0 x138 K y129 b130 s131 x132 x133 s134 s135 x136 J100) ∧
(¬ (x138 ≠ 0) →
(Rng .i64 (x106 + 1)) ∧
(J105 (x106 + 1) y129 (decide (b130 = true)) s131 x132 x133 s134 s135 x136 (decide (b115 = true)) s116 (decide (b117 = true)) s118 (decide (b139 = true)) s140 (decide (b141 = true)) s142 ∧ M105 (x106 + 1) y129 (decide (b130 = true)) s131 x132 x133 s134 s135 x136 (decide (b115 = true)) s116 (decide (b117 = true)) s118 (decide (b139 = true)) s140 (decide (b141 = true)) s142 < M105 x106 y107 (decide (b108 = true)) s109 x110 x111 s112 s113 x114 (decide (b115 = true)) s116 (decide (b117 = true)) s118 (decide (b119 = true)) s120 (decide (b121 = true)) s122))))))))))))))))))))))))))))))))))))))))))))))) ∧
(¬ (x106 < x111) →
((((0 : Int) ≠ 0) → K 0 0 y107 (decide (b108 = true)) s109 x110 x111 s112 s113 x114) ∧
(¬ ((0 : Int) ≠ 0) → J100 0 0 y107 (decide (b108 = true)) s109 x110 x111 s112 s113 x114 (decide (b119 = true)) s120 (decide (b121 = true)) s122)))))))))))))))))))))))))))))))))))))))
def G_2 (J100 : Int → Int → ByteArray → Bool → Sl → Int → Int → Sl → Sl → Int → Bool → Sl → Bool → Sl → Prop) (xn : Int) (K : Int → Int → ByteArray → Bool → Sl → Int → Int → Sl → Sl → Int → Prop) : Prop :=
((∀ x101 : Int,
((Rng .i64 x101) →
(∀ x102 : Int,
((Rng .i64 x102) →
(∀ y103 : ByteArray,
(∀ b104 : Bool,
(∀ s105 : Sl,
((Ranged s105 [some .i64, some .i64, some .i64, none, none, none, none]) →
(∀ x106 : Int,
((Rng .i64 x106) →
(∀ x107 : Int,
((Rng .i64 x107) →
(∀ s108 : Sl,
(∀ s109 : Sl,
(∀ x110 : Int,
((Rng .i64 x110) →
(∀ b111 : Bool,
(∀ s112 : Sl,
((Ranged s112 [some .u16]) →
(∀ b113 : Bool,
(∀ s114 : Sl,
((Ranged s114 [some .u16]) →
(J100 x101 x102 y103 (decide (b104 = true)) s105 x106 x107 s108 s109 x110 (decide (b111 = true)) s112 (decide (b113 = true)) s114 →
(p_fFromInt xn) ∧
(∀ b115 : Bool,
(∀ s116 : Sl,
((Ranged s116 [some .u16]) →
(∀ b117 : Bool,
(∀ s118 : Sl,
((Ranged s118 [some .u16]) →
((q_fFromInt xn (decide (b115 = true)) s116 (decide (b117 = true)) s118) →
(p_fMul (decide (b111 = true)) s112 (decide (b113 = true)) s114 (decide (b115 = true)) s116 (decide (b117 = true)) s118) ∧
(∀ b119 : Bool,
(∀ s120 : Sl,
((Ranged s120 [some .u16]) →
(∀ b121 : Bool,
(∀ s122 : Sl,
((Ranged s122 [some .u16]) →
(∀ x123 : Int,
((Rng .i64 x123) →
((q_fMul (decide (b111 = true)) s112 (decide (b113 = true)) s114 (decide (b115 = true)) s116 (decide (b117 = true)) s118 (decide (b119 = true)) s120 (decide (b121 = true)) s122 x123) →
(p_fFromInt 12) ∧
(∀ b124 : Bool,
(∀ s125 : Sl,
((Ranged s125 [some .u16]) →
(∀ b126 : Bool,
(∀ s127 : Sl,
((Ranged s127 [some .u16]) →
((q_fFromInt 12 (decide (b124 = true)) s125 (decide (b126 = true)) s127) →
(p_fDiv (decide (b119 = true)) s120 (decide (b121 = true)) s122 (decide (b124 = true)) s125 (decide (b126 = true)) s127) ∧
(∀ b128 : Bool,
(∀ s129 : Sl,
((Ranged s129 [some .u16]) →
(∀ b130 : Bool,
(∀ s131 : Sl,
((Ranged s131 [some .u16]) →
(∀ x132 : Int,
((Rng .i64 x132) →
((q_fDiv (decide (b119 = true)) s120 (decide (b121 = true)) s122 (decide (b124 = true)) s125 (decide (b126 = true)) s127 (decide (b128 = true)) s129 (decide (b130 = true)) s131 x132) →
(∃ J133 : Int → Int → Prop,
(((∃ J134 : Int → Prop,
(((p_aFirst (Sl.lit [[(.int x123)], [(.int x132)]])) ∧
(∀ x135 : Int,
((Rng .i64 x135) →
((q_aFirst (Sl.lit [[(.int x123)], [(.int x132)]]) x135) → J134 x135)))) ∧
((∀ x135 : Int,
((Rng .i64 x135) →
(J134 x135 →
(((x135 ≠ 0) → K 0 x135 y103 (decide (b104 = true)) s105 x106 x107 s108 s109 x110) ∧
(¬ (x135 ≠ 0) → J133 x101 x102))))))))) ∧
((∀ x134 : Int,
((Rng .i64 x134) →
(∀ x135 : Int,
((Rng .i64 x135) →
(J133 x134 x135 →
(p_aAmount (decide (b128 = true)) s129 (decide (b130 = true)) s131) ∧
(∀ x136 : Int,
((Rng .i64 x136) →
(∀ x137 : Int,
((Rng .i64 x137) →
((q_aAmount (decide (b128 = true)) s129 (decide (b130 = true)) s131 x136 x137) → K x136 x137 y103 (decide (b104 = true)) s105 x106 x107 s108 s109 x110)))))))))))))))))))))))))))))))))))))))))))))))))))))))))))))))))))))
def G_3 (xd : Int) (y33 : ByteArray) (b34 : Bool) (s35 : Sl) (x36 : Int) (x37 : Int) (s38 : Sl) (s39 : Sl) (x40 : Int) (K : Int → Int → ByteArray → Bool → Sl → Int → Int → Sl → Sl → Int → Prop) (xn : Int) : Prop :=
(∃ J100 : Int → Int → ByteArray → Bool → Sl → Int → Int → Sl → Sl → Int → Bool → Sl → Bool → Sl → Prop,
(((G_1 xd y33 b34 s35 x36 x37 s38 s39 x40 K J100)) ∧
(G_2 J100 xn K)))
def G_4 (x49 : Int) (xd : Int) (y33 : ByteArray) (b34 : Bool) (s35 : Sl) (x36 : Int) (x37 : Int) (s38 : Sl) (s39 : Sl) (x40 : Int) (K : Int → Int → ByteArray → Bool → Sl → Int → Int → Sl → Sl → Int → Prop) (xn : Int) : Prop :=
((x49 ≠ 0) →
(G_3 xd y33 b34 s35 x36 x37 s38 s39 x40 K xn))
def G_5 (b50 : Bool) (xd : Int) (y33 : ByteArray) (b34 : Bool) (s35 : Sl) (x36 : Int) (x37 : Int) (s38 : Sl) (s39 : Sl) (x40 : Int) (K : Int → Int → ByteArray → Bool → Sl → Int → Int → Sl → Sl → Int → Prop) (xn : Int) : Prop :=
((¬ (b50 = true)) →
(G_3 xd y33 b34 s35 x36 x37 s38 s39 x40 K xn))
def G_6 (K : Int → Int → ByteArray → Bool → Sl → Int → Int → Sl → Sl → Int → Prop) (xn : Int) (xd : Int) (y22 : ByteArray) (b23 : Bool) (s24 : Sl) (x25 : Int) (x26 : Int) (s27 : Sl) (s28 : Sl) (x29 : Int) : Prop :=
(∃ (J32 : ByteArray → Bool → Sl → Int → Int → Sl → Sl → Int → Bool → Sl → Bool → Sl → Prop) (M32 : ByteArray → Bool → Sl → Int → Int → Sl → Sl → Int → Bool → Sl → Bool → Sl → Nat), J32 y22 (decide (b23 = true)) s24 x25 x26 s27 s28 x29 (decide False) Sl.nil (decide False) Sl.nil ∧
(∀ y33 : ByteArray,
(∀ b34 : Bool,
(∀ s35 : Sl,
((Ranged s35 [some .i64, some .i64, some .i64, none, none, none, none]) →
(∀ x36 : Int,
((Rng .i64 x36) →
(∀ x37 : Int,
((Rng .i64 x37) →
(∀ s38 : Sl,
(∀ s39 : Sl,
(∀ x40 : Int,
((Rng .i64 x40) →
(∀ b41 : Bool,
(∀ s42 : Sl,
((Ranged s42 [some .u16]) →
(∀ b43 : Bool,
(∀ s44 : Sl,
((Ranged s44 [some .u16]) →
(J32 y33 (decide (b34 = true)) s35 x36 x37 s38 s39 x40 (decide (b41 = true)) s42 (decide (b43 = true)) s44 →
(((x40 > xd) →
(Rng .i64 (x40 - 1)) ∧
((12 : Int) ≠ 0) ∧
(Rng .i64 (Int.tdiv (x40 - 1) 12)) ∧
(Rng .i64 (1900 + (Int.tdiv (x40 - 1) 12))) ∧
((Ranged (Sl.sub (Sl.mget s38 (1900 + (Int.tdiv (x40 - 1) 12)) [(.bool (decide False)), (Sl.d Sl.nil), (.bool (decide False)), (Sl.d Sl.nil)]) 0 1) [some .u16]) →
((Ranged (Sl.sub (Sl.mget s38 (1900 + (Int.tdiv (x40 - 1) 12)) [(.bool (decide False)), (Sl.d Sl.nil), (.bool (decide False)), (Sl.d Sl.nil)]) 0 3) [some .u16]) →
(((Sl.mhas s38 (1900 + (Int.tdiv (x40 - 1) 12)) = true) →
((((0 : Int) ≠ 0) →
(G_3 xd y33 b34 s35 x36 x37 s38 s39 x40 K xn)) ∧
(¬ ((0 : Int) ≠ 0) →
((Ranged (Sl.sub (Sl.mget s39 x40 [(.bool (decide False)), (Sl.d Sl.nil), (.bool (decide False)), (Sl.d Sl.nil)]) 0 1) [some .u16]) →
((Ranged (Sl.sub (Sl.mget s39 x40 [(.bool (decide False)), (Sl.d Sl.nil), (.bool (decide False)), (Sl.d Sl.nil)]) 0 3) [some .u16]) →
(p_fAdd (decide (Sl.bool (Sl.mget s38 (1900 + (Int.tdiv (x40 - 1) 12)) [(.bool (decide False)), (Sl.d Sl.nil), (.bool (decide False)), (Sl.d Sl.nil)]) 0 0 = true)) (Sl.sub (Sl.mget s38 (1900 + (Int.tdiv (x40 - 1) 12)) [(.bool (decide False)), (Sl.d Sl.nil), (.bool (decide False)), (Sl.d Sl.nil)]) 0 1) (decide (Sl.bool (Sl.mget s38 (1900 + (Int.tdiv (x40 - 1) 12)) [(.bool (decide False)), (Sl.d Sl.nil), (.bool (decide False)), (Sl.d Sl.nil)]) 0 2 = true)) (Sl.sub (Sl.mget s38 (1900 + (Int.tdiv (x40 - 1) 12)) [(.bool (decide False)), (Sl.d Sl.nil), (.bool (decide False)), (Sl.d Sl.nil)]) 0 3) (decide (Sl.bool (Sl.mget s39 x40 [(.bool (decide False)), (Sl.d Sl.nil), (.bool (decide False)), (Sl.d Sl.nil)]) 0 0 = true)) (Sl.sub (Sl.mget s39 x40 [(.bool (decide False)), (Sl.d Sl.nil), (.bool (decide False)), (Sl.d Sl.nil)]) 0 1) (decide (Sl.bool (Sl.mget s39 x40 [(.bool (decide False)), (Sl.d Sl.nil), (.bool (decide False)), (Sl.d Sl.nil)]) 0 2 = true)) (Sl.sub (Sl.mget s39 x40 [(.bool (decide False)), (Sl.d Sl.nil), (.bool (decide False)), (Sl.d Sl.nil)]) 0 3)) ∧
(∀ b45 : Bool,
(∀ s46 : Sl,
((Ranged s46 [some .u16]) →
(∀ b47 : Bool,
(∀ s48 : Sl,
((Ranged s48 [some .u16]) →
(∀ x49 : Int,
((Rng .i64 x49) →
((q_fAdd (decide (Sl.bool (Sl.mget s38 (1900 + (Int.tdiv (x40 - 1) 12)) [(.bool (decide False)), (Sl.d Sl.nil), (.bool (decide False)), (Sl.d Sl.nil)]) 0 0 = true)) (Sl.sub (Sl.mget s38 (1900 + (Int.tdiv (x40 - 1) 12)) [(.bool (decide False)), (Sl.d Sl.nil), (.bool (decide False)), (Sl.d Sl.nil)]) 0 1) (decide (Sl.bool (Sl.mget s38 (1900 + (Int.tdiv (x40 - 1) 12)) [(.bool (decide False)), (Sl.d Sl.nil), (.bool (decide False)), (Sl.d Sl.nil)]) 0 2 = true)) (Sl.sub (Sl.mget s38 (1900 + (Int.tdiv (x40 - 1) 12)) [(.bool (decide False)), (Sl.d Sl.nil), (.bool (decide False)), (Sl.d Sl.nil)]) 0 3) (decide (Sl.bool (Sl.mget s39 x40 [(.bool (decide False)), (Sl.d Sl.nil), (.bool (decide False)), (Sl.d Sl.nil)]) 0 0 = true)) (Sl.sub (Sl.mget s39 x40 [(.bool (decide False)), (Sl.d Sl.nil), (.bool (decide False)), (Sl.d Sl.nil)]) 0 1) (decide (Sl.bool (Sl.mget s39 x40 [(.bool (decide False)), (Sl.d Sl.nil), (.bool (decide False)), (Sl.d Sl.nil)]) 0 2 = true)) (Sl.sub (Sl.mget s39 x40 [(.bool (decide False)), (Sl.d Sl.nil), (.bool (decide False)), (Sl.d Sl.nil)]) 0 3) (decide (b45 = true)) s46 (decide (b47 = true)) s48 x49) →
((G_4 x49 xd y33 b34 s35 x36 x37 s38 s39 x40 K xn) ∧
(¬ (x49 ≠ 0) →
(p_aShort (decide (b45 = true)) s46 (decide (b47 = true)) s48) ∧
(∀ b50 : Bool,
((q_aShort (decide (b45 = true)) s46 (decide (b47 = true)) s48 (decide (b50 = true))) →
((G_5 b50 xd y33 b34 s35 x36 x37 s38 s39 x40 K xn) ∧
(¬ (¬ (b50 = true)) →
(Rng .i64 (x40 - 1)) ∧
(J32 y33 (decide (b34 = true)) s35 x36 x37 s38 (Sl.mset s39 (x40 - 1) [(.bool (decide (b45 = true))), (Sl.d s46), (.bool (decide (b47 = true))), (Sl.d s48)]) (x40 - 1) (decide (b41 = true)) s42 (decide (b43 = true)) s44 ∧ M32 y33 (decide (b34 = true)) s35 x36 x37 s38 (Sl.mset s39 (x40 - 1) [(.bool (decide (b45 = true))), (Sl.d s46), (.bool (decide (b47 = true))), (Sl.d s48)]) (x40 - 1) (decide (b41 = true)) s42 (decide (b43 = true)) s44 < M32 y33 (decide (b34 = true)) s35 x36 x37 s38 s39 x40 (decide (b41 = true)) s42 (decide (b43 = true)) s44))))))))))))))))))))) ∧
(¬ (Sl.mhas s38 (1900 + (Int.tdiv (x40 - 1) 12)) = true) →
(p_Look y33 (decide (b34 = true)) s35 (1900 + (Int.tdiv (x40 - 1) 12)) x36) ∧
(∀ b45 : Bool,
(∀ s46 : Sl,
((Ranged s46 [some .u16]) →
(∀ b47 : Bool,
(∀ s48 : Sl,
((Ranged s48 [some .u16]) →
(∀ x49 : Int,
((Rng .i64 x49) →
((q_Look y33 (decide (b34 = true)) s35 (1900 + (Int.tdiv (x40 - 1) 12)) x36 (decide (b45 = true)) s46 (decide (b47 = true)) s48 x49) →
(∃ J50 : ByteArray → Bool → Sl → Int → Int → Sl → Sl → Int → Prop,
(((((x49 = 0) → J50 y33 (decide (b34 = true)) s35 x36 x37 (Sl.mset s38 (1900 + (Int.tdiv (x40 - 1) 12)) [(.bool (decide (b45 = true))), (Sl.d s46), (.bool (decide (b47 = true))), (Sl.d s48)]) s39 x40) ∧
(¬ (x49 = 0) → J50 y33 (decide (b34 = true)) s35 x36 x37 s38 s39 x40))) ∧
((∀ y51 : ByteArray,
(∀ b52 : Bool,
(∀ s53 : Sl,
((Ranged s53 [some .i64, some .i64, some .i64, none, none, none, none]) →
(∀ x54 : Int,
((Rng .i64 x54) →
(∀ x55 : Int,
((Rng .i64 x55) →
(∀ s56 : Sl,
(∀ s57 : Sl,
(∀ x58 : Int,
((Rng .i64 x58) →
(J50 y51 (decide (b52 = true)) s53 x54 x55 s56 s57 x58 →
((G_4 x49 xd y51 b52 s53 x54 x55 s56 s57 x58 K xn) ∧
(¬ (x49 ≠ 0) →
((Ranged (Sl.sub (Sl.mget s57 x58 [(.bool (decide False)), (Sl.d Sl.nil), (.bool (decide False)), (Sl.d Sl.nil)]) 0 1) [some .u16]) →
((Ranged (Sl.sub (Sl.mget s57 x58 [(.bool (decide False)), (Sl.d Sl.nil), (.bool (decide False)), (Sl.d Sl.nil)]) 0 3) [some .u16]) →
(p_fAdd (decide (b45 = true)) s46 (decide (b47 = true)) s48 (decide (Sl.bool (Sl.mget s57 x58 [(.bool (decide False)), (Sl.d Sl.nil), (.bool (decide False)), (Sl.d Sl.nil)]) 0 0 = true)) (Sl.sub (Sl.mget s57 x58 [(.bool (decide False)), (Sl.d Sl.nil), (.bool (decide False)), (Sl.d Sl.nil)]) 0 1) (decide (Sl.bool (Sl.mget s57 x58 [(.bool (decide False)), (Sl.d Sl.nil), (.bool (decide False)), (Sl.d Sl.nil)]) 0 2 = true)) (Sl.sub (Sl.mget s57 x58 [(.bool (decide False)), (Sl.d Sl.nil), (.bool (decide False)), (Sl.d Sl.nil)]) 0 3)) ∧
(∀ b59 : Bool,
(∀ s60 : Sl,
((Ranged s60 [some .u16]) →
(∀ b61 : Bool,
(∀ s62 : Sl,
((Ranged s62 [some .u16]) →
(∀ x63 : Int,
((Rng .i64 x63) →
((q_fAdd (decide (b45 = true)) s46 (decide (b47 = true)) s48 (decide (Sl.bool (Sl.mget s57 x58 [(.bool (decide False)), (Sl.d Sl.nil), (.bool (decide False)), (Sl.d Sl.nil)]) 0 0 = true)) (Sl.sub (Sl.mget s57 x58 [(.bool (decide False)), (Sl.d Sl.nil), (.bool (decide False)), (Sl.d Sl.nil)]) 0 1) (decide (Sl.bool (Sl.mget s57 x58 [(.bool (decide False)), (Sl.d Sl.nil), (.bool (decide False)), (Sl.d Sl.nil)]) 0 2 = true)) (Sl.sub (Sl.mget s57 x58 [(.bool (decide False)), (Sl.d Sl.nil), (.bool (decide False)), (Sl.d Sl.nil)]) 0 3) (decide (b59 = true)) s60 (decide (b61 = true)) s62 x63) →
((G_4 x63 xd y51 b52 s53 x54 x55 s56 s57 x58 K xn) ∧
(¬ (x63 ≠ 0) →
(p_aShort (decide (b59 = true)) s60 (decide (b61 = true)) s62) ∧
(∀ b64 : Bool,
((q_aShort (decide (b59 = true)) s60 (decide (b61 = true)) s62 (decide (b64 = true))) →
((G_5 b64 xd y51 b52 s53 x54 x55 s56 s57 x58 K xn) ∧
(¬ (¬ (b64 = true)) →
(Rng .i64 (x58 - 1)) ∧
(J32 y51 (decide (b52 = true)) s53 x54 x55 s56 (Sl.mset s57 (x58 - 1) [(.bool (decide (b59 = true))), (Sl.d s60), (.bool (decide (b61 = true))), (Sl.d s62)]) (x58 - 1) (decide (b41 = true)) s42 (decide (b43 = true)) s44 ∧ M32 y51 (decide (b52 = true)) s53 x54 x55 s56 (Sl.mset s57 (x58 - 1) [(.bool (decide (b59 = true))), (Sl.d s60), (.bool (decide (b61 = true))), (Sl.d s62)]) (x58 - 1) (decide (b41 = true)) s42 (decide (b43 = true)) s44 < M32 y33 (decide (b34 = true)) s35 x36 x37 s38 s39 x40 (decide (b41 = true)) s42 (decide (b43 = true)) s44)))))))))))))))))))))))))))))))))))))))))))))))))) ∧
(¬ (x40 > xd) →
((Ranged (Sl.sub (Sl.mget s39 xd [(.bool (decide False)), (Sl.d Sl.nil), (.bool (decide False)), (Sl.d Sl.nil)]) 0 1) [some .u16]) →
((Ranged (Sl.sub (Sl.mget s39 xd [(.bool (decide False)), (Sl.d Sl.nil), (.bool (decide False)), (Sl.d Sl.nil)]) 0 3) [some .u16]) →
(∃ J45 : Int → Int → ByteArray → Bool → Sl → Int → Int → Sl → Sl → Int → Bool → Sl → Bool → Sl → Prop,
(((((¬ (Sl.mhas s39 xd = true)) →
(G_1 xd y33 b34 s35 x36 x37 s38 s39 x40 K J45)) ∧
(¬ (¬ (Sl.mhas s39 xd = true)) → J45 0 0 y33 (decide (b34 = true)) s35 x36 x37 s38 s39 x40 (decide (Sl.bool (Sl.mget s39 xd [(.bool (decide False)), (Sl.d Sl.nil), (.bool (decide False)), (Sl.d Sl.nil)]) 0 0 = true)) (Sl.sub (Sl.mget s39 xd [(.bool (decide False)), (Sl.d Sl.nil), (.bool (decide False)), (Sl.d Sl.nil)]) 0 1) (decide (Sl.bool (Sl.mget s39 xd [(.bool (decide False)), (Sl.d Sl.nil), (.bool (decide False)), (Sl.d Sl.nil)]) 0 2 = true)) (Sl.sub (Sl.mget s39 xd [(.bool (decide False)), (Sl.d Sl.nil), (.bool (decide False)), (Sl.d Sl.nil)]) 0 3)))) ∧
(G_2 J45 xn K)))))))))))))))))))))))))))
def V_Owe : Prop :=
(∀ x0 : Int,
((Rng .i64 x0) →
(∀ s1 : Sl,
((Ranged s1 [some .i64]) →
(∀ s2 : Sl,
((Ranged s2 [some .i64, some .i64, some .u8, some .i64]) →
(∀ x3 : Int,
((Rng .i64 x3) →
(∀ x4 : Int,
((Rng .i64 x4) →
(∀ y5 : ByteArray,
(∀ b6 : Bool,
(∀ s7 : Sl,
((Ranged s7 [some .i64, some .i64, some .i64, none, none, none, none]) →
(∀ x8 : Int,
((Rng .i64 x8) →
((p_Owe x0 s1 s2 x3 x4 y5 (decide (b6 = true)) s7 x8) →
(p_Valid x0 s1 s2) ∧
(∀ b9 : Bool,
((q_Valid x0 s1 s2 (decide (b9 = true))) →
(((¬ (b9 = true)) →
(q_Owe x0 s1 s2 x3 x4 y5 (decide (b6 = true)) s7 x8 Sl.nil 2) ∧ True) ∧
(¬ (¬ (b9 = true)) →
(p_tValid y5 (decide (b6 = true)) s7) ∧
(∀ b10 : Bool,
((q_tValid y5 (decide (b6 = true)) s7 (decide (b10 = true))) →
(((¬ (b10 = true)) →
(q_Owe x0 s1 s2 x3 x4 y5 (decide (b6 = true)) s7 x8 Sl.nil 2) ∧ True) ∧
(¬ (¬ (b10 = true)) →
(((b6 = true) →
(q_Owe x0 s1 s2 x3 x4 y5 (decide (b6 = true)) s7 x8 Sl.nil 2) ∧ True) ∧
(¬ (b6 = true) →
(((x3 < 0) →
(q_Owe x0 s1 s2 x3 x4 y5 (decide (b6 = true)) s7 x8 Sl.nil 2) ∧ True) ∧
(¬ (x3 < 0) →
(((x3 ≥ 65536) →
(q_Owe x0 s1 s2 x3 x4 y5 (decide (b6 = true)) s7 x8 Sl.nil 2) ∧ True) ∧
(¬ (x3 ≥ 65536) →
(((x4 < 0) →
(q_Owe x0 s1 s2 x3 x4 y5 (decide (b6 = true)) s7 x8 Sl.nil 2) ∧ True) ∧
(¬ (x4 < 0) →
(((x4 > 2400) →
(q_Owe x0 s1 s2 x3 x4 y5 (decide (b6 = true)) s7 x8 Sl.nil 2) ∧ True) ∧
(¬ (x4 > 2400) →
(p_fFromInt 0) ∧
(∀ b11 : Bool,
(∀ s12 : Sl,
((Ranged s12 [some .u16]) →
(∀ b13 : Bool,
(∀ s14 : Sl,
((Ranged s14 [some .u16]) →
((q_fFromInt 0 (decide (b11 = true)) s12 (decide (b13 = true)) s14) →
((((Sl.len (Sl.lit [])) + (Sl.len s1)) * 8) ≤ 140737488355328) ∧
((Small s2) →
(∃ (J15 : Int → Sl → Prop) (M15 : Int → Sl → Nat), J15 0 (Sl.app (Sl.lit []) s1) ∧
(∀ x16 : Int,
((Rng .i64 x16) →
(∀ s17 : Sl,
((Ranged s17 [some .i64]) →
(J15 x16 s17 →
(((x16 < (Sl.len s2)) →
((0 : Int) ≤ x16) ∧
(x16 < (Sl.len s2)) ∧
((Rng .i64 (Sl.int s2 x16 0)) →
((Rng .i64 (Sl.int s2 x16 1)) →
((Rng .u8 (Sl.int s2 x16 2)) →
((Rng .i64 (Sl.int s2 x16 3)) →
((((Sl.int s2 x16 2) ≠ 3) →
(Rng .i64 ((Sl.int s2 x16 1) - x0)) ∧
((0 : Int) ≤ ((Sl.int s2 x16 1) - x0)) ∧
(((Sl.int s2 x16 1) - x0) < (Sl.len s17)) ∧
((Rng .i64 (Sl.int s17 ((Sl.int s2 x16 1) - x0) 0)) →
(Rng .i64 ((Sl.int s17 ((Sl.int s2 x16 1) - x0) 0) - (Sl.int s2 x16 3))) ∧
((0 : Int) ≤ ((Sl.int s2 x16 1) - x0)) ∧
(((Sl.int s2 x16 1) - x0) < (Sl.len s17)) ∧
(Rng .i64 (x16 + 1)) ∧
(J15 (x16 + 1) (Sl.upd s17 ((Sl.int s2 x16 1) - x0) 0 [(.int ((Sl.int s17 ((Sl.int s2 x16 1) - x0) 0) - (Sl.int s2 x16 3)))]) ∧ M15 (x16 + 1) (Sl.upd s17 ((Sl.int s2 x16 1) - x0) 0 [(.int ((Sl.int s17 ((Sl.int s2 x16 1) - x0) 0) - (Sl.int s2 x16 3)))]) < M15 x16 s17))) ∧
(¬ ((Sl.int s2 x16 2) ≠ 3) →
(Rng .i64 (x16 + 1)) ∧
(J15 (x16 + 1) s17 ∧ M15 (x16 + 1) s17 < M15 x16 s17)))))))) ∧
(¬ (x16 < (Sl.len s2)) →
((Small s17) →
(∃ (J18 : Int → Sl → Int → ByteArray → Bool → Sl → Int → Int → Sl → Sl → Int → Sl → Prop) (M18 : Int → Sl → Int → ByteArray → Bool → Sl → Int → Int → Sl → Sl → Int → Sl → Nat), J18 0 Sl.nil 0 y5 (decide (b6 = true)) s7 x8 x4 Sl.nil (Sl.mset Sl.nil x4 [(.bool (decide (b11 = true))), (Sl.d s12), (.bool (decide (b13 = true))), (Sl.d s14)]) x4 Sl.nil ∧
(∀ x19 : Int,
((Rng .i64 x19) →
(∀ s20 : Sl,
((Ranged s20 [some .i64, some .i64, some .u8, some .i64]) →
(∀ x21 : Int,
((Rng .i64 x21) →
(∀ y22 : ByteArray,
(∀ b23 : Bool,
(∀ s24 : Sl,
((Ranged s24 [some .i64, some .i64, some .i64, none, none, none, none]) →
(∀ x25 : Int,
((Rng .i64 x25) →
(∀ x26 : Int,
((Rng .i64 x26) →
(∀ s27 : Sl,
(∀ s28 : Sl,
(∀ x29 : Int,
((Rng .i64 x29) →
(∀ s30 : Sl,
((Ranged s30 [some .i64, some .i64, some .u8, some .i64]) →
(J18 x19 s20 x21 y22 (decide (b23 = true)) s24 x25 x26 s27 s28 x29 s30 →
(((x19 < (Sl.len s17)) →
((0 : Int) ≤ x19) ∧
(x19 < (Sl.len s17)) ∧
((Rng .i64 (Sl.int s17 x19 0)) →
(Rng .i64 (x0 + x19)) ∧
((((x0 + x19) ≥ x4) →
(q_Owe x0 s1 s2 x3 x4 y5 (decide (b6 = true)) s7 x8 s30 0) ∧ True) ∧
(¬ ((x0 + x19) ≥ x4) →
((((Sl.int s17 x19 0) > 0) →
(Rng .i64 (x0 + x19)) ∧
((((Sl.int s17 x19 0) > 1099511627776) →
(q_Owe x0 s1 s2 x3 x4 y5 (decide (b6 = true)) s7 x8 Sl.nil 3) ∧ True) ∧
(¬ ((Sl.int s17 x19 0) > 1099511627776) →
(∃ J31 : Int → Int → ByteArray → Bool → Sl → Int → Int → Sl → Sl → Int → Prop,
((((((Sl.int s17 x19 0) = 0) → J31 0 0 y22 (decide (b23 = true)) s24 x25 x26 s27 s28 x29) ∧
(¬ ((Sl.int s17 x19 0) = 0) →
((((x0 + x19) = x26) → J31 0 0 y22 (decide (b23 = true)) s24 x25 x26 s27 s28 x29) ∧
(¬ ((x0 + x19) = x26) →
(G_6 J31 (Sl.int s17 x19 0) (x0 + x19) y22 b23 s24 x25 x26 s27 s28 x29)))))) ∧
((∀ x32 : Int,
((Rng .i64 x32) →
(∀ x33 : Int,
((Rng .i64 x33) →
(∀ y34 : ByteArray,
(∀ b35 : Bool,
(∀ s36 : Sl,
((Ranged s36 [some .i64, some .i64, some .i64, none, none, none, none]) →
(∀ x37 : Int,
((Rng .i64 x37) →
(∀ x38 : Int,
((Rng .i64 x38) →
(∀ s39 : Sl,
(∀ s40 : Sl,
(∀ x41 : Int,
((Rng .i64 x41) →
(J31 x32 x33 y34 (decide (b35 = true)) s36 x37 x38 s39 s40 x41 →
(((x33 ≠ 0) →
(q_Owe x0 s1 s2 x3 x4 y5 (decide (b6 = true)) s7 x8 Sl.nil x33) ∧ True) ∧
(¬ (x33 ≠ 0) →
((((Sl.len s30) + (Sl.len (Sl.lit [[(.int x3), (.int (x0 + x19)), (.int 2), (.int (Sl.int s17 x19 0))]]))) * 32) ≤ 140737488355328) ∧
(((x32 ≠ 0) →
((((Sl.len (Sl.app s30 (Sl.lit [[(.int x3), (.int (x0 + x19)), (.int 2), (.int (Sl.int s17 x19 0))]]))) + (Sl.len (Sl.lit [[(.int x3), (.int (x0 + x19)), (.int 3), (.int x32)]]))) * 32) ≤ 140737488355328) ∧
(Rng .i64 (x19 + 1)) ∧
(J18 (x19 + 1) s20 x21 y34 (decide (b35 = true)) s36 x37 x38 s39 s40 x41 (Sl.app (Sl.app s30 (Sl.lit [[(.int x3), (.int (x0 + x19)), (.int 2), (.int (Sl.int s17 x19 0))]])) (Sl.lit [[(.int x3), (.int (x0 + x19)), (.int 3), (.int x32)]])) ∧ M18 (x19 + 1) s20 x21 y34 (decide (b35 = true)) s36 x37 x38 s39 s40 x41 (Sl.app (Sl.app s30 (Sl.lit [[(.int x3), (.int (x0 + x19)), (.int 2), (.int (Sl.int s17 x19 0))]])) (Sl.lit [[(.int x3), (.int (x0 + x19)), (.int 3), (.int x32)]])) < M18 x19 s20 x21 y22 (decide (b23 = true)) s24 x25 x26 s27 s28 x29 s30)) ∧
(¬ (x32 ≠ 0) →
(Rng .i64 (x19 + 1)) ∧
(J18 (x19 + 1) s20 x21 y34 (decide (b35 = true)) s36 x37 x38 s39 s40 x41 (Sl.app s30 (Sl.lit [[(.int x3), (.int (x0 + x19)), (.int 2), (.int (Sl.int s17 x19 0))]])) ∧ M18 (x19 + 1) s20 x21 y34 (decide (b35 = true)) s36 x37 x38 s39 s40 x41 (Sl.app s30 (Sl.lit [[(.int x3), (.int (x0 + x19)), (.int 2), (.int (Sl.int s17 x19 0))]])) < M18 x19 s20 x21 y22 (decide (b23 = true)) s24 x25 x26 s27 s28 x29 s30)))))))))))))))))))))))))))) ∧
(¬ ((Sl.int s17 x19 0) > 0) →
(Rng .i64 (x19 + 1)) ∧
(J18 (x19 + 1) s20 x21 y22 (decide (b23 = true)) s24 x25 x26 s27 s28 x29 s30 ∧ M18 (x19 + 1) s20 x21 y22 (decide (b23 = true)) s24 x25 x26 s27 s28 x29 s30 < M18 x19 s20 x21 y22 (decide (b23 = true)) s24 x25 x26 s27 s28 x29 s30))))))) ∧
(¬ (x19 < (Sl.len s17)) →
(q_Owe x0 s1 s2 x3 x4 y5 (decide (b6 = true)) s7 x8 s30 0) ∧ True))))))))))))))))))))))))))))))))))))))))))))))))))))))))))))))))))))))))))))
def V_Interest : Prop :=
(∀ x0 : Int,
((Rng .i64 x0) →
(∀ x1 : Int,
((Rng .i64 x1) →
(∀ x2 : Int,
((Rng .i64 x2) →
(∀ y3 : ByteArray,
(∀ b4 : Bool,
(∀ s5 : Sl,
((Ranged s5 [some .i64, some .i64, some .i64, none, none, none, none]) →
(∀ x6 : Int,
((Rng .i64 x6) →
((p_Interest x0 x1 x2 y3 (decide (b4 = true)) s5 x6) →
(((x0 < 0) →
(q_Interest x0 x1 x2 y3 (decide (b4 = true)) s5 x6 0 2) ∧ True) ∧
(¬ (x0 < 0) →
(((x0 > 1099511627776) →
(q_Interest x0 x1 x2 y3 (decide (b4 = true)) s5 x6 0 2) ∧ True) ∧
(¬ (x0 > 1099511627776) →
(((x1 < 0) →
(q_Interest x0 x1 x2 y3 (decide (b4 = true)) s5 x6 0 2) ∧ True) ∧
(¬ (x1 < 0) →
(((x2 < x1) →
(q_Interest x0 x1 x2 y3 (decide (b4 = true)) s5 x6 0 2) ∧ True) ∧
(¬ (x2 < x1) →
(((x2 > 2400) →
(q_Interest x0 x1 x2 y3 (decide (b4 = true)) s5 x6 0 2) ∧ True) ∧
(¬ (x2 > 2400) →
(p_tValid y3 (decide (b4 = true)) s5) ∧
(∀ b7 : Bool,
((q_tValid y3 (decide (b4 = true)) s5 (decide (b7 = true))) →
(((¬ (b7 = true)) →
(q_Interest x0 x1 x2 y3 (decide (b4 = true)) s5 x6 0 2) ∧ True) ∧
(¬ (¬ (b7 = true)) →
(((b4 = true) →
(q_Interest x0 x1 x2 y3 (decide (b4 = true)) s5 x6 0 2) ∧ True) ∧
(¬ (b4 = true) →
(p_fFromInt 0) ∧
(∀ b8 : Bool,
(∀ s9 : Sl,
((Ranged s9 [some .u16]) →
(∀ b10 : Bool,
(∀ s11 : Sl,
((Ranged s11 [some .u16]) →
((q_fFromInt 0 (decide (b8 = true)) s9 (decide (b10 = true)) s11) →
(((x0 = 0) →
(q_Interest x0 x1 x2 y3 (decide (b4 = true)) s5 x6 0 0) ∧ True) ∧
(¬ (x0 = 0) →
(((x1 = x2) →
(q_Interest x0 x1 x2 y3 (decide (b4 = true)) s5 x6 0 0) ∧ True) ∧
(¬ (x1 = x2) →
(G_6 (fun v e _ _ _ _ _ _ _ _ => (q_Interest x0 x1 x2 y3 (decide (b4 = true)) s5 x6 v e) ∧ True) x0 x1 y3 b4 s5 x6 x2 Sl.nil (Sl.mset Sl.nil x2 [(.bool (decide (b8 = true))), (Sl.d s9), (.bool (decide (b10 = true))), (Sl.d s11)]) x2)))))))))))))))))))))))))))))))))))))))))
def V_part : Prop :=
(∀ x0 : Int,
((Rng .i64 x0) →
(∀ x1 : Int,
((Rng .i64 x1) →
((p_part x0 x1) →
(p_kFrac x0 x1) ∧
(∀ b2 : Bool,
(∀ s3 : Sl,
((Ranged s3 [some .u16]) →
(∀ b4 : Bool,
(∀ s5 : Sl,
((Ranged s5 [some .u16]) →
((q_kFrac x0 x1 (decide (b2 = true)) s3 (decide (b4 = true)) s5) →
(q_part x0 x1 (decide (b2 = true)) s3 (decide (b4 = true)) s5) ∧ True))))))))))))
def V_rates : Prop :=
(∀ s0 : Sl,
((Ranged s0 [some .u8]) →
((p_rates s0) →
(p_part 0 1) ∧
(∀ b1 : Bool,
(∀ s2 : Sl,
((Ranged s2 [some .u16]) →
(∀ b3 : Bool,
(∀ s4 : Sl,
((Ranged s4 [some .u16]) →
((q_part 0 1 (decide (b1 = true)) s2 (decide (b3 = true)) s4) →
((Small s0) →
((0 : Int) ≤ 0) ∧
((0 : Int) ≤ (imin (Sl.len s0) 8)) ∧
((imin (Sl.len s0) 8) ≤ (Sl.len s0)) ∧
((Small (Sl.part s0 0 (imin (Sl.len s0) 8))) →
(∃ (J5 : Int → ByteArray → Bool → Sl → Prop) (M5 : Int → ByteArray → Bool → Sl → Nat), J5 0 (bytes [114, 97, 116, 101, 115]) (decide False) (Sl.lit [[(.int 0), (.int 0), (.int 0), (.bool (decide (b1 = true))), (Sl.d s2), (.bool (decide (b3 = true))), (Sl.d s4)]]) ∧
(∀ x6 : Int,
((Rng .i64 x6) →
(∀ y7 : ByteArray,
(∀ b8 : Bool,
(∀ s9 : Sl,
((Ranged s9 [some .i64, some .i64, some .i64, none, none, none, none]) →
(J5 x6 y7 (decide (b8 = true)) s9 →
(((x6 < (Sl.len (Sl.part s0 0 (imin (Sl.len s0) 8)))) →
((0 : Int) ≤ x6) ∧
(x6 < (Sl.len (Sl.part s0 0 (imin (Sl.len s0) 8)))) ∧
((Rng .u8 (Sl.int (Sl.part s0 0 (imin (Sl.len s0) 8)) x6 0)) →
(Rng .i64 (1990 + x6)) ∧
(((p_part (Sl.int (Sl.part s0 0 (imin (Sl.len s0) 8)) x6 0) 1000) ∧
(∀ b10 : Bool,
(∀ s11 : Sl,
((Ranged s11 [some .u16]) →
(∀ b12 : Bool,
(∀ s13 : Sl,
((Ranged s13 [some .u16]) →
((q_part (Sl.int (Sl.part s0 0 (imin (Sl.len s0) 8)) x6 0) 1000 (decide (b10 = true)) s11 (decide (b12 = true)) s13) →
((((Sl.len s9) + (Sl.len (Sl.lit [[(.int (1990 + x6)), (.int 0), (.int 0), (.bool (decide (b10 = true))), (Sl.d s11), (.bool (decide (b12 = true))), (Sl.d s13)]]))) * 88) ≤ 140737488355328) ∧
(Rng .i64 (x6 + 1)) ∧
(J5 (x6 + 1) y7 (decide (b8 = true)) (Sl.app s9 (Sl.lit [[(.int (1990 + x6)), (.int 0), (.int 0), (.bool (decide (b10 = true))), (Sl.d s11), (.bool (decide (b12 = true))), (Sl.d s13)]])) ∧ M5 (x6 + 1) y7 (decide (b8 = true)) (Sl.app s9 (Sl.lit [[(.int (1990 + x6)), (.int 0), (.int 0), (.bool (decide (b10 = true))), (Sl.d s11), (.bool (decide (b12 = true))), (Sl.d s13)]])) < M5 x6 y7 (decide (b8 = true)) s9))))))))) ∧
((p_part (Sl.int (Sl.part s0 0 (imin (Sl.len s0) 8)) x6 0) 1000) ∧
(∀ b10 : Bool,
(∀ s11 : Sl,
((Ranged s11 [some .u16]) →
(∀ b12 : Bool,
(∀ s13 : Sl,
((Ranged s13 [some .u16]) →
((q_part (Sl.int (Sl.part s0 0 (imin (Sl.len s0) 8)) x6 0) 1000 (decide (b10 = true)) s11 (decide (b12 = true)) s13) →
((((((Sl.len s9) + (Sl.len (Sl.lit [[(.int (1990 + x6)), (.int 0), (.int 0), (.bool (decide (b10 = true))), (Sl.d s11), (.bool (decide (b12 = true))), (Sl.d s13)]]))) * 88) ≤ 140737488355328) ∧
(Rng .i64 (x6 + 1)) ∧
(J5 (x6 + 1) y7 (decide (b8 = true)) (Sl.app s9 (Sl.lit [[(.int (1990 + x6)), (.int 0), (.int 0), (.bool (decide (b10 = true))), (Sl.d s11), (.bool (decide (b12 = true))), (Sl.d s13)]])) ∧ M5 (x6 + 1) y7 (decide (b8 = true)) (Sl.app s9 (Sl.lit [[(.int (1990 + x6)), (.int 0), (.int 0), (.bool (decide (b10 = true))), (Sl.d s11), (.bool (decide (b12 = true))), (Sl.d s13)]])) < M5 x6 y7 (decide (b8 = true)) s9)) ∧
(((((Sl.len s9) + (Sl.len (Sl.lit [[(.int (1990 + x6)), (.int 0), (.int 0), (.bool (decide (b10 = true))), (Sl.d s11), (.bool (decide (b12 = true))), (Sl.d s13)]]))) * 88) ≤ 140737488355328) ∧
(Rng .i64 (x6 + 1)) ∧
(J5 (x6 + 1) y7 (decide (b8 = true)) (Sl.app s9 (Sl.lit [[(.int (1990 + x6)), (.int 0), (.int 0), (.bool (decide (b10 = true))), (Sl.d s11), (.bool (decide (b12 = true))), (Sl.d s13)]])) ∧ M5 (x6 + 1) y7 (decide (b8 = true)) (Sl.app s9 (Sl.lit [[(.int (1990 + x6)), (.int 0), (.int 0), (.bool (decide (b10 = true))), (Sl.d s11), (.bool (decide (b12 = true))), (Sl.d s13)]])) < M5 x6 y7 (decide (b8 = true)) s9)))))))))))))) ∧
(¬ (x6 < (Sl.len (Sl.part s0 0 (imin (Sl.len s0) 8)))) →
(q_rates s0 y7 (decide (b8 = true)) s9) ∧ True))))))))))))))))))))))
def V_yearly : Prop :=
((p_yearly ) →
(p_part 6 100) ∧
(∀ b0 : Bool,
(∀ s1 : Sl,
((Ranged s1 [some .u16]) →
(∀ b2 : Bool,
(∀ s3 : Sl,
((Ranged s3 [some .u16]) →
((q_part 6 100 (decide (b0 = true)) s1 (decide (b2 = true)) s3) →
(p_part 12 100) ∧
(∀ b4 : Bool,
(∀ s5 : Sl,
((Ranged s5 [some .u16]) →
(∀ b6 : Bool,
(∀ s7 : Sl,
((Ranged s7 [some .u16]) →
((q_part 12 100 (decide (b4 = true)) s5 (decide (b6 = true)) s7) →
(q_yearly  (bytes [114, 97, 116, 101, 115]) (decide False) (Sl.lit [[(.int 2020), (.int 0), (.int 0), (.bool (decide (b0 = true))), (Sl.d s1), (.bool (decide (b2 = true))), (Sl.d s3)], [(.int 2021), (.int 0), (.int 0), (.bool (decide (b4 = true))), (Sl.d s5), (.bool (decide (b6 = true))), (Sl.d s7)]])) ∧ True)))))))))))))))
def V_lPosted : Prop :=
((p_lPosted ) →
(q_lPosted  1451 (Sl.lit [[(.int 100)], [(.int 200)], [(.int 300)]]) (Sl.lit [[(.int 0), (.int 1452), (.int 1), (.int 50)]])) ∧ True)
def V_paids : Prop :=
(∀ s0 : Sl,
(∀ s1 : Sl,
((p_paids s0 s1) →
((Small s0) →
((Small s1) →
((((Sl.len s0) ≠ (Sl.len s1)) →
(q_paids s0 s1 (decide False)) ∧ True) ∧
(¬ ((Sl.len s0) ≠ (Sl.len s1)) →
((Small s0) →
(∃ (J2 : Int → Prop) (M2 : Int → Nat), J2 0 ∧
(∀ x3 : Int,
((Rng .i64 x3) →
(J2 x3 →
(((x3 < (Sl.len s0)) →
((0 : Int) ≤ x3) ∧
(x3 < (Sl.len s0)) ∧
((Rng .i64 (Sl.int s0 x3 0)) →
((Rng .i64 (Sl.int s0 x3 1)) →
((Rng .u8 (Sl.int s0 x3 2)) →
((Rng .i64 (Sl.int s0 x3 3)) →
((0 : Int) ≤ x3) ∧
(x3 < (Sl.len s1)) ∧
((Rng .i64 (Sl.int s1 x3 0)) →
((Rng .i64 (Sl.int s1 x3 1)) →
((Rng .u8 (Sl.int s1 x3 2)) →
((Rng .i64 (Sl.int s1 x3 3)) →
(((¬ (((Sl.int s0 x3 0) = (Sl.int s1 x3 0)) ∧ (((Sl.int s0 x3 1) = (Sl.int s1 x3 1)) ∧ (((Sl.int s0 x3 2) = (Sl.int s1 x3 2)) ∧ ((Sl.int s0 x3 3) = (Sl.int s1 x3 3)))))) →
(q_paids s0 s1 (decide False)) ∧ True) ∧
(¬ (¬ (((Sl.int s0 x3 0) = (Sl.int s1 x3 0)) ∧ (((Sl.int s0 x3 1) = (Sl.int s1 x3 1)) ∧ (((Sl.int s0 x3 2) = (Sl.int s1 x3 2)) ∧ ((Sl.int s0 x3 3) = (Sl.int s1 x3 3)))))) →
(Rng .i64 (x3 + 1)) ∧
(J2 (x3 + 1) ∧ M2 (x3 + 1) < M2 x3)))))))))))) ∧
(¬ (x3 < (Sl.len s0)) →
(q_paids s0 s1 (decide True)) ∧ True))))))))))))))
def V_near : Prop :=
(∀ x0 : Int,
((Rng .i64 x0) →
(∀ x1 : Int,
((Rng .i64 x1) →
((p_near x0 x1) →
(((x0 < 0) →
(q_near x0 x1 (decide True)) ∧ True) ∧
(¬ (x0 < 0) →
(((x1 > 2400) →
(q_near x0 x1 (decide True)) ∧ True) ∧
(¬ (x1 > 2400) →
(((x1 < x0) →
(q_near x0 x1 (decide True)) ∧ True) ∧
(¬ (x1 < x0) →
(Rng .i64 (x1 - x0)) ∧
(q_near x0 x1 (decide ((x1 - x0) ≤ 200))) ∧ True)))))))))))
def V_few : Prop :=
(∀ x0 : Int,
((Rng .i64 x0) →
(∀ s1 : Sl,
(∀ s2 : Sl,
(∀ x3 : Int,
((Rng .i64 x3) →
((p_few x0 s1 s2 x3) →
((Small s1) →
((((Sl.len s1) ≤ 20) →
((Small s2) →
((((Sl.len s2) ≤ 40) →
(((x0 < 0) →
(q_few x0 s1 s2 x3 (decide True)) ∧ True) ∧
(¬ (x0 < 0) →
(((x0 > 2400) →
(q_few x0 s1 s2 x3 (decide True)) ∧ True) ∧
(¬ (x0 > 2400) →
(p_near x0 x3) ∧
(∀ b4 : Bool,
((q_near x0 x3 (decide (b4 = true))) →
(q_few x0 s1 s2 x3 (decide (b4 = true))) ∧ True))))))) ∧
(¬ ((Sl.len s2) ≤ 40) →
(q_few x0 s1 s2 x3 (decide False)) ∧ True)))) ∧
(¬ ((Sl.len s1) ≤ 20) →
(q_few x0 s1 s2 x3 (decide False)) ∧ True))))))))))
def V_aAwake : Prop :=
((p_aAwake ) →
(p_yearly ) ∧
(∀ y0 : ByteArray,
(∀ b1 : Bool,
(∀ s2 : Sl,
((Ranged s2 [some .i64, some .i64, some .i64, none, none, none, none]) →
((q_yearly  y0 (decide (b1 = true)) s2) →
(p_Interest 1000 1451 1453 y0 (decide (b1 = true)) s2 0) ∧
(∀ x3 : Int,
((Rng .i64 x3) →
(∀ x4 : Int,
((Rng .i64 x4) →
((q_Interest 1000 1451 1453 y0 (decide (b1 = true)) s2 0 x3 x4) →
(p_lPosted ) ∧
(∀ x5 : Int,
((Rng .i64 x5) →
(∀ s6 : Sl,
((Ranged s6 [some .i64]) →
(∀ s7 : Sl,
((Ranged s7 [some .i64, some .i64, some .u8, some .i64]) →
((q_lPosted  x5 s6 s7) →
(p_yearly ) ∧
(∀ y8 : ByteArray,
(∀ b9 : Bool,
(∀ s10 : Sl,
((Ranged s10 [some .i64, some .i64, some .i64, none, none, none, none]) →
((q_yearly  y8 (decide (b9 = true)) s10) →
(p_Owe x5 s6 s7 9 1453 y8 (decide (b9 = true)) s10 0) ∧
(∀ s11 : Sl,
((Ranged s11 [some .i64, some .i64, some .u8, some .i64]) →
(∀ x12 : Int,
((Rng .i64 x12) →
((q_Owe x5 s6 s7 9 1453 y8 (decide (b9 = true)) s10 0 s11 x12) →
(((x4 = 0) →
(((x12 = 0) →
(((x3 = 15) →
(p_paids s11 (Sl.lit [[(.int 9), (.int 1451), (.int 2), (.int 100)], [(.int 9), (.int 1451), (.int 3), (.int 2)], [(.int 9), (.int 1452), (.int 2), (.int 150)], [(.int 9), (.int 1452), (.int 3), (.int 2)]])) ∧
(∀ b13 : Bool,
((q_paids s11 (Sl.lit [[(.int 9), (.int 1451), (.int 2), (.int 100)], [(.int 9), (.int 1451), (.int 3), (.int 2)], [(.int 9), (.int 1452), (.int 2), (.int 150)], [(.int 9), (.int 1452), (.int 3), (.int 2)]]) (decide (b13 = true))) →
(q_aAwake  (decide (b13 = true))) ∧ True))) ∧
(¬ (x3 = 15) →
(q_aAwake  (decide False)) ∧ True))) ∧
(¬ (x12 = 0) →
(q_aAwake  (decide False)) ∧ True))) ∧
(¬ (x4 = 0) →
(q_aAwake  (decide False)) ∧ True))))))))))))))))))))))))))))))
end Go.Sx.N
