/-
  The conditions of the functions, and that they are what the executor says. Conditions: none; printed by a program of our own.
-/
import Derived.Test.YtlhjljekeobplaaLedT
import Derived.KernelRfl
namespace Go.Sx.L
open Go.Proofs
def V_has : Prop :=
(∀ x0 : Int,
((Rng .i64 x0) →
(∀ s1 : Sl,
(∀ s2 : Sl,
(∀ x3 : Int,
((Rng .i64 x3) →
((p_has x0 s1 s2 x3) →
(((x0 ≤ x3) →
((Small s1) →
(Rng .i64 (x0 + (Sl.len s1))) ∧
(q_has x0 s1 s2 x3 (decide (x3 < (x0 + (Sl.len s1))))) ∧ True)) ∧
(¬ (x0 ≤ x3) →
(q_has x0 s1 s2 x3 (decide False)) ∧ True)))))))))
theorem j_has : (vc (A := sem Tb) (cfgAt []) 6 37 ⟨[.agg [(.int .i64, false), (.sl 3, false), (.sl 47, false)], .cell (.int .i64) false], [.cell (.bool) false]⟩).den = V_has := by kernel_rfl
theorem s_has (h : SigOk Tb (cfgAt [])) (hv : V_has) : SigOk Tb (cfgAt [37]) := SigOk.next (l := []) h (f := 37) (sg := ⟨[.agg [(.int .i64, false), (.sl 3, false), (.sl 47, false)], .cell (.int .i64) false], [.cell (.bool) false]⟩) rfl j_has hv
def V_follow : Prop :=
(∀ x0 : Int,
((Rng .i64 x0) →
(∀ s1 : Sl,
(∀ s2 : Sl,
(∀ s3 : Sl,
(∀ x4 : Int,
((Rng .i64 x4) →
((p_follow x0 s1 s2 s3 x4) →
((Small s3) →
(∃ (J5 : Int → Int → Prop) (M5 : Int → Int → Nat), J5 x4 0 ∧
(∀ x6 : Int,
((Rng .i64 x6) →
(∀ x7 : Int,
((Rng .i64 x7) →
(J5 x6 x7 →
(((x7 < (Sl.len s3)) →
((0 : Int) ≤ x7) ∧
(x7 < (Sl.len s3)) ∧
((Rng .i64 (Sl.int s3 x7 0)) →
((Rng .i64 (Sl.int s3 x7 1)) →
((Rng .u8 (Sl.int s3 x7 2)) →
((Rng .i64 (Sl.int s3 x7 3)) →
((((Sl.int s3 x7 0) < 0) →
(q_follow x0 s1 s2 s3 x4 (decide False)) ∧ True) ∧
(¬ ((Sl.int s3 x7 0) < 0) →
((((Sl.int s3 x7 0) ≥ 65536) →
(q_follow x0 s1 s2 s3 x4 (decide False)) ∧ True) ∧
(¬ ((Sl.int s3 x7 0) ≥ 65536) →
(p_has x0 s1 s2 (Sl.int s3 x7 1)) ∧
(∀ b8 : Bool,
((q_has x0 s1 s2 (Sl.int s3 x7 1) (decide (b8 = true))) →
(((¬ (b8 = true)) →
(q_follow x0 s1 s2 s3 x4 (decide False)) ∧ True) ∧
(¬ (¬ (b8 = true)) →
((((Sl.int s3 x7 2) = 1) →
((((0 : Int) ≤ (Sl.int s3 x7 3)) →
(((¬ ((Sl.int s3 x7 3) ≤ 1099511627776)) →
(q_follow x0 s1 s2 s3 x4 (decide False)) ∧ True) ∧
(¬ (¬ ((Sl.int s3 x7 3) ≤ 1099511627776)) →
((((Sl.int s3 x7 0) < x6) →
(q_follow x0 s1 s2 s3 x4 (decide False)) ∧ True) ∧
(¬ ((Sl.int s3 x7 0) < x6) →
(Rng .i64 (x7 + 1)) ∧
(J5 (Sl.int s3 x7 0) (x7 + 1) ∧ M5 (Sl.int s3 x7 0) (x7 + 1) < M5 x6 x7)))))) ∧
(¬ ((0 : Int) ≤ (Sl.int s3 x7 3)) →
(q_follow x0 s1 s2 s3 x4 (decide False)) ∧ True))) ∧
(¬ ((Sl.int s3 x7 2) = 1) →
((((Sl.int s3 x7 2) = 2) →
((((0 : Int) ≤ (Sl.int s3 x7 3)) →
(((¬ ((Sl.int s3 x7 3) ≤ 1099511627776)) →
(q_follow x0 s1 s2 s3 x4 (decide False)) ∧ True) ∧
(¬ (¬ ((Sl.int s3 x7 3) ≤ 1099511627776)) →
((((Sl.int s3 x7 0) < x6) →
(q_follow x0 s1 s2 s3 x4 (decide False)) ∧ True) ∧
(¬ ((Sl.int s3 x7 0) < x6) →
(Rng .i64 (x7 + 1)) ∧
(J5 (Sl.int s3 x7 0) (x7 + 1) ∧ M5 (Sl.int s3 x7 0) (x7 + 1) < M5 x6 x7)))))) ∧
(¬ ((0 : Int) ≤ (Sl.int s3 x7 3)) →
(q_follow x0 s1 s2 s3 x4 (decide False)) ∧ True))) ∧
(¬ ((Sl.int s3 x7 2) = 2) →
((((Sl.int s3 x7 2) = 3) →
((((0 : Int) ≤ (Sl.int s3 x7 3)) →
(((¬ ((Sl.int s3 x7 3) ≤ 1099511627776)) →
(q_follow x0 s1 s2 s3 x4 (decide False)) ∧ True) ∧
(¬ (¬ ((Sl.int s3 x7 3) ≤ 1099511627776)) →
((((Sl.int s3 x7 0) < x6) →
(q_follow x0 s1 s2 s3 x4 (decide False)) ∧ True) ∧
(¬ ((Sl.int s3 x7 0) < x6) →
(Rng .i64 (x7 + 1)) ∧
(J5 (Sl.int s3 x7 0) (x7 + 1) ∧ M5 (Sl.int s3 x7 0) (x7 + 1) < M5 x6 x7)))))) ∧
(¬ ((0 : Int) ≤ (Sl.int s3 x7 3)) →
(q_follow x0 s1 s2 s3 x4 (decide False)) ∧ True))) ∧
(¬ ((Sl.int s3 x7 2) = 3) →
((((Sl.int s3 x7 2) = 6) →
((((0 : Int) ≤ (Sl.int s3 x7 3)) →
(((¬ ((Sl.int s3 x7 3) ≤ 1099511627776)) →
(q_follow x0 s1 s2 s3 x4 (decide False)) ∧ True) ∧
(¬ (¬ ((Sl.int s3 x7 3) ≤ 1099511627776)) →
((((Sl.int s3 x7 0) < x6) →
(q_follow x0 s1 s2 s3 x4 (decide False)) ∧ True) ∧
(¬ ((Sl.int s3 x7 0) < x6) →
(Rng .i64 (x7 + 1)) ∧
(J5 (Sl.int s3 x7 0) (x7 + 1) ∧ M5 (Sl.int s3 x7 0) (x7 + 1) < M5 x6 x7)))))) ∧
(¬ ((0 : Int) ≤ (Sl.int s3 x7 3)) →
(q_follow x0 s1 s2 s3 x4 (decide False)) ∧ True))) ∧
(¬ ((Sl.int s3 x7 2) = 6) →
((((Sl.int s3 x7 2) = 4) →
(((((-1099511627776) : Int) ≤ (Sl.int s3 x7 3)) →
(((¬ ((Sl.int s3 x7 3) ≤ 0)) →
(q_follow x0 s1 s2 s3 x4 (decide False)) ∧ True) ∧
(¬ (¬ ((Sl.int s3 x7 3) ≤ 0)) →
((((Sl.int s3 x7 0) < x6) →
(q_follow x0 s1 s2 s3 x4 (decide False)) ∧ True) ∧
(¬ ((Sl.int s3 x7 0) < x6) →
(Rng .i64 (x7 + 1)) ∧
(J5 (Sl.int s3 x7 0) (x7 + 1) ∧ M5 (Sl.int s3 x7 0) (x7 + 1) < M5 x6 x7)))))) ∧
(¬ (((-1099511627776) : Int) ≤ (Sl.int s3 x7 3)) →
(q_follow x0 s1 s2 s3 x4 (decide False)) ∧ True))) ∧
(¬ ((Sl.int s3 x7 2) = 4) →
((((Sl.int s3 x7 2) = 5) →
(((((-1099511627776) : Int) ≤ (Sl.int s3 x7 3)) →
(((¬ ((Sl.int s3 x7 3) ≤ 0)) →
(q_follow x0 s1 s2 s3 x4 (decide False)) ∧ True) ∧
(¬ (¬ ((Sl.int s3 x7 3) ≤ 0)) →
((((Sl.int s3 x7 0) < x6) →
(q_follow x0 s1 s2 s3 x4 (decide False)) ∧ True) ∧
(¬ ((Sl.int s3 x7 0) < x6) →
(Rng .i64 (x7 + 1)) ∧
(J5 (Sl.int s3 x7 0) (x7 + 1) ∧ M5 (Sl.int s3 x7 0) (x7 + 1) < M5 x6 x7)))))) ∧
(¬ (((-1099511627776) : Int) ≤ (Sl.int s3 x7 3)) →
(q_follow x0 s1 s2 s3 x4 (decide False)) ∧ True))) ∧
(¬ ((Sl.int s3 x7 2) = 5) →
(q_follow x0 s1 s2 s3 x4 (decide False)) ∧ True))))))))))))))))))))))))) ∧
(¬ (x7 < (Sl.len s3)) →
(q_follow x0 s1 s2 s3 x4 (decide True)) ∧ True)))))))))))))))))
theorem j_follow : (vc (A := sem Tb) (cfgAt [37]) 6 36 ⟨[.agg [(.int .i64, false), (.sl 3, false), (.sl 47, false)], .cell (.sl 47) false, .cell (.int .i64) false], [.cell (.bool) false]⟩).den = V_follow := by kernel_rfl
theorem s_follow (h : SigOk Tb (cfgAt [37])) (hv : V_follow) : SigOk Tb (cfgAt [36, 37]) := SigOk.next (l := [37]) h (f := 36) (sg := ⟨[.agg [(.int .i64, false), (.sl 3, false), (.sl 47, false)], .cell (.sl 47) false, .cell (.int .i64) false], [.cell (.bool) false]⟩) rfl j_follow hv
def V_Valid : Prop :=
(∀ x0 : Int,
((Rng .i64 x0) →
(∀ s1 : Sl,
(∀ s2 : Sl,
((p_Valid x0 s1 s2) →
(((x0 < 0) →
(q_Valid x0 s1 s2 (decide False)) ∧ True) ∧
(¬ (x0 < 0) →
(((x0 > 2400) →
(q_Valid x0 s1 s2 (decide False)) ∧ True) ∧
(¬ (x0 > 2400) →
((Small s1) →
((((Sl.len s1) > 1200) →
(q_Valid x0 s1 s2 (decide False)) ∧ True) ∧
(¬ ((Sl.len s1) > 1200) →
((Small s1) →
(Rng .i64 (x0 + (Sl.len s1))) ∧
((((x0 + (Sl.len s1)) > 2400) →
(q_Valid x0 s1 s2 (decide False)) ∧ True) ∧
(¬ ((x0 + (Sl.len s1)) > 2400) →
((Small s1) →
(∃ (J3 : Int → Prop) (M3 : Int → Nat), J3 0 ∧
(∀ x4 : Int,
((Rng .i64 x4) →
(J3 x4 →
(((x4 < (Sl.len s1)) →
((0 : Int) ≤ x4) ∧
(x4 < (Sl.len s1)) ∧
((Rng .i64 (Sl.int s1 x4 0)) →
((((Sl.int s1 x4 0) < 0) →
(((x4 ≥ 0) →
(q_Valid x0 s1 s2 (decide False)) ∧ True) ∧
(¬ (x4 ≥ 0) →
((Small s2) →
((((Sl.len s2) ≤ 4000) →
(p_follow x0 s1 s2 s2 0) ∧
(∀ b5 : Bool,
((q_follow x0 s1 s2 s2 0 (decide (b5 = true))) →
(q_Valid x0 s1 s2 (decide (b5 = true))) ∧ True))) ∧
(¬ ((Sl.len s2) ≤ 4000) →
(q_Valid x0 s1 s2 (decide False)) ∧ True)))))) ∧
(¬ ((Sl.int s1 x4 0) < 0) →
((((Sl.int s1 x4 0) > 1099511627776) →
(((x4 ≥ 0) →
(q_Valid x0 s1 s2 (decide False)) ∧ True) ∧
(¬ (x4 ≥ 0) →
((Small s2) →
((((Sl.len s2) ≤ 4000) →
(p_follow x0 s1 s2 s2 0) ∧
(∀ b5 : Bool,
((q_follow x0 s1 s2 s2 0 (decide (b5 = true))) →
(q_Valid x0 s1 s2 (decide (b5 = true))) ∧ True))) ∧
(¬ ((Sl.len s2) ≤ 4000) →
(q_Valid x0 s1 s2 (decide False)) ∧ True)))))) ∧
(¬ ((Sl.int s1 x4 0) > 1099511627776) →
(Rng .i64 (x4 + 1)) ∧
(J3 (x4 + 1) ∧ M3 (x4 + 1) < M3 x4))))))) ∧
(¬ (x4 < (Sl.len s1)) →
(((((-1) : Int) ≥ 0) →
(q_Valid x0 s1 s2 (decide False)) ∧ True) ∧
(¬ (((-1) : Int) ≥ 0) →
((Small s2) →
((((Sl.len s2) ≤ 4000) →
(p_follow x0 s1 s2 s2 0) ∧
(∀ b5 : Bool,
((q_follow x0 s1 s2 s2 0 (decide (b5 = true))) →
(q_Valid x0 s1 s2 (decide (b5 = true))) ∧ True))) ∧
(¬ ((Sl.len s2) ≤ 4000) →
(q_Valid x0 s1 s2 (decide False)) ∧ True)))))))))))))))))))))))))))
theorem j_Valid : (vc (A := sem Tb) (cfgAt [36, 37]) 6 15 ⟨[.agg [(.int .i64, false), (.sl 3, false), (.sl 47, false)]], [.cell (.bool) false]⟩).den = V_Valid := by kernel_rfl
theorem s_Valid (h : SigOk Tb (cfgAt [36, 37])) (hv : V_Valid) : SigOk Tb (cfgAt [15, 36, 37]) := SigOk.next (l := [36, 37]) h (f := 15) (sg := ⟨[.agg [(.int .i64, false), (.sl 3, false), (.sl 47, false)]], [.cell (.bool) false]⟩) rfl j_Valid hv
def V_posted : Prop :=
(∀ x0 : Int,
((Rng .i64 x0) →
(∀ s1 : Sl,
(∀ s2 : Sl,
(∀ x3 : Int,
((Rng .i64 x3) →
((p_posted x0 s1 s2 x3) →
((Small s2) →
(∃ (J4 : Int → Int → Prop) (M4 : Int → Int → Nat), J4 0 0 ∧
(∀ x5 : Int,
((Rng .i64 x5) →
(∀ x6 : Int,
((Rng .i64 x6) →
(J4 x5 x6 →
(((x6 < (Sl.len s2)) →
((0 : Int) ≤ x6) ∧
(x6 < (Sl.len s2)) ∧
((Rng .i64 (Sl.int s2 x6 0)) →
((Rng .i64 (Sl.int s2 x6 1)) →
((Rng .u8 (Sl.int s2 x6 2)) →
((Rng .i64 (Sl.int s2 x6 3)) →
((((Sl.int s2 x6 1) ≠ x3) →
(Rng .i64 (x5 + 0)) ∧
(Rng .i64 (x6 + 1)) ∧
(J4 (x5 + 0) (x6 + 1) ∧ M4 (x5 + 0) (x6 + 1) < M4 x5 x6)) ∧
(¬ ((Sl.int s2 x6 1) ≠ x3) →
((((Sl.int s2 x6 2) = 3) →
(Rng .i64 (x5 + 0)) ∧
(Rng .i64 (x6 + 1)) ∧
(J4 (x5 + 0) (x6 + 1) ∧ M4 (x5 + 0) (x6 + 1) < M4 x5 x6)) ∧
(¬ ((Sl.int s2 x6 2) = 3) →
(Rng .i64 (x5 + (Sl.int s2 x6 3))) ∧
(Rng .i64 (x6 + 1)) ∧
(J4 (x5 + (Sl.int s2 x6 3)) (x6 + 1) ∧ M4 (x5 + (Sl.int s2 x6 3)) (x6 + 1) < M4 x5 x6)))))))))) ∧
(¬ (x6 < (Sl.len s2)) →
(q_posted x0 s1 s2 x3 x5) ∧ True))))))))))))))))
theorem j_posted : (vc (A := sem Tb) (cfgAt [15, 36, 37]) 6 38 ⟨[.agg [(.int .i64, false), (.sl 3, false), (.sl 47, false)], .cell (.int .i64) false], [.cell (.int .i64) false]⟩).den = V_posted := by kernel_rfl
theorem s_posted (h : SigOk Tb (cfgAt [15, 36, 37])) (hv : V_posted) : SigOk Tb (cfgAt [38, 15, 36, 37]) := SigOk.next (l := [15, 36, 37]) h (f := 38) (sg := ⟨[.agg [(.int .i64, false), (.sl 3, false), (.sl 47, false)], .cell (.int .i64) false], [.cell (.int .i64) false]⟩) rfl j_posted hv
def V_Posted : Prop :=
(∀ x0 : Int,
((Rng .i64 x0) →
(∀ s1 : Sl,
(∀ s2 : Sl,
(∀ x3 : Int,
((Rng .i64 x3) →
((p_Posted x0 s1 s2 x3) →
(p_Valid x0 s1 s2) ∧
(∀ b4 : Bool,
((q_Valid x0 s1 s2 (decide (b4 = true))) →
(((¬ (b4 = true)) →
(q_Posted x0 s1 s2 x3 0 2) ∧ True) ∧
(¬ (¬ (b4 = true)) →
(p_has x0 s1 s2 x3) ∧
(∀ b5 : Bool,
((q_has x0 s1 s2 x3 (decide (b5 = true))) →
(((¬ (b5 = true)) →
(q_Posted x0 s1 s2 x3 0 6) ∧ True) ∧
(¬ (¬ (b5 = true)) →
(p_posted x0 s1 s2 x3) ∧
(∀ x6 : Int,
((Rng .i64 x6) →
((q_posted x0 s1 s2 x3 x6) →
(q_Posted x0 s1 s2 x3 x6 0) ∧ True))))))))))))))))))
theorem j_Posted : (vc (A := sem Tb) (cfgAt [38, 15, 36, 37]) 6 21 ⟨[.agg [(.int .i64, false), (.sl 3, false), (.sl 47, false)], .cell (.int .i64) false], [.cell (.int .i64) false, .cell (.int .i64) false]⟩).den = V_Posted := by kernel_rfl
theorem s_Posted (h : SigOk Tb (cfgAt [38, 15, 36, 37])) (hv : V_Posted) : SigOk Tb (cfgAt [21, 38, 15, 36, 37]) := SigOk.next (l := [38, 15, 36, 37]) h (f := 21) (sg := ⟨[.agg [(.int .i64, false), (.sl 3, false), (.sl 47, false)], .cell (.int .i64) false], [.cell (.int .i64) false, .cell (.int .i64) false]⟩) rfl j_Posted hv
def V_Open : Prop :=
(∀ x0 : Int,
((Rng .i64 x0) →
(∀ s1 : Sl,
(∀ s2 : Sl,
(∀ x3 : Int,
((Rng .i64 x3) →
((p_Open x0 s1 s2 x3) →
(p_Valid x0 s1 s2) ∧
(∀ b4 : Bool,
((q_Valid x0 s1 s2 (decide (b4 = true))) →
(((¬ (b4 = true)) →
(q_Open x0 s1 s2 x3 0 2) ∧ True) ∧
(¬ (¬ (b4 = true)) →
(p_has x0 s1 s2 x3) ∧
(∀ b5 : Bool,
((q_has x0 s1 s2 x3 (decide (b5 = true))) →
(((¬ (b5 = true)) →
(q_Open x0 s1 s2 x3 0 6) ∧ True) ∧
(¬ (¬ (b5 = true)) →
(Rng .i64 (x3 - x0)) ∧
((0 : Int) ≤ (x3 - x0)) ∧
((x3 - x0) < (Sl.len s1)) ∧
((Rng .i64 (Sl.int s1 (x3 - x0) 0)) →
(p_posted x0 s1 s2 x3) ∧
(∀ x6 : Int,
((Rng .i64 x6) →
((q_posted x0 s1 s2 x3 x6) →
(Rng .i64 ((Sl.int s1 (x3 - x0) 0) - x6)) ∧
(q_Open x0 s1 s2 x3 ((Sl.int s1 (x3 - x0) 0) - x6) 0) ∧ True)))))))))))))))))))
theorem j_Open : (vc (A := sem Tb) (cfgAt [21, 38, 15, 36, 37]) 6 16 ⟨[.agg [(.int .i64, false), (.sl 3, false), (.sl 47, false)], .cell (.int .i64) false], [.cell (.int .i64) false, .cell (.int .i64) false]⟩).den = V_Open := by kernel_rfl
theorem s_Open (h : SigOk Tb (cfgAt [21, 38, 15, 36, 37])) (hv : V_Open) : SigOk Tb (cfgAt [16, 21, 38, 15, 36, 37]) := SigOk.next (l := [21, 38, 15, 36, 37]) h (f := 16) (sg := ⟨[.agg [(.int .i64, false), (.sl 3, false), (.sl 47, false)], .cell (.int .i64) false], [.cell (.int .i64) false, .cell (.int .i64) false]⟩) rfl j_Open hv
def V_Balance : Prop :=
(∀ x0 : Int,
((Rng .i64 x0) →
(∀ s1 : Sl,
(∀ s2 : Sl,
(∀ x3 : Int,
((Rng .i64 x3) →
((p_Balance x0 s1 s2 x3) →
(p_Valid x0 s1 s2) ∧
(∀ b4 : Bool,
((q_Valid x0 s1 s2 (decide (b4 = true))) →
(((¬ (b4 = true)) →
(q_Balance x0 s1 s2 x3 0 2) ∧ True) ∧
(¬ (¬ (b4 = true)) →
((Small s1) →
(Rng .i64 (x0 + (Sl.len s1))) ∧
(Rng .i64 ((imin (imax x3 x0) (x0 + (Sl.len s1))) - x0)) ∧
((0 : Int) ≤ 0) ∧
((0 : Int) ≤ ((imin (imax x3 x0) (x0 + (Sl.len s1))) - x0)) ∧
(((imin (imax x3 x0) (x0 + (Sl.len s1))) - x0) ≤ (Sl.len s1)) ∧
((Small (Sl.part s1 0 ((imin (imax x3 x0) (x0 + (Sl.len s1))) - x0))) →
(∃ (J5 : Int → Int → Prop) (M5 : Int → Int → Nat), J5 0 0 ∧
(∀ x6 : Int,
((Rng .i64 x6) →
(∀ x7 : Int,
((Rng .i64 x7) →
(J5 x6 x7 →
(((x7 < (Sl.len (Sl.part s1 0 ((imin (imax x3 x0) (x0 + (Sl.len s1))) - x0)))) →
((0 : Int) ≤ x7) ∧
(x7 < (Sl.len (Sl.part s1 0 ((imin (imax x3 x0) (x0 + (Sl.len s1))) - x0)))) ∧
((Rng .i64 (Sl.int (Sl.part s1 0 ((imin (imax x3 x0) (x0 + (Sl.len s1))) - x0)) x7 0)) →
(Rng .i64 (x6 + (Sl.int (Sl.part s1 0 ((imin (imax x3 x0) (x0 + (Sl.len s1))) - x0)) x7 0))) ∧
(Rng .i64 (x7 + 1)) ∧
(J5 (x6 + (Sl.int (Sl.part s1 0 ((imin (imax x3 x0) (x0 + (Sl.len s1))) - x0)) x7 0)) (x7 + 1) ∧ M5 (x6 + (Sl.int (Sl.part s1 0 ((imin (imax x3 x0) (x0 + (Sl.len s1))) - x0)) x7 0)) (x7 + 1) < M5 x6 x7))) ∧
(¬ (x7 < (Sl.len (Sl.part s1 0 ((imin (imax x3 x0) (x0 + (Sl.len s1))) - x0)))) →
((Small s2) →
(∃ (J8 : Int → Int → Prop) (M8 : Int → Int → Nat), J8 0 0 ∧
(∀ x9 : Int,
((Rng .i64 x9) →
(∀ x10 : Int,
((Rng .i64 x10) →
(J8 x9 x10 →
(((x10 < (Sl.len s2)) →
((0 : Int) ≤ x10) ∧
(x10 < (Sl.len s2)) ∧
((Rng .i64 (Sl.int s2 x10 0)) →
((Rng .i64 (Sl.int s2 x10 1)) →
((Rng .u8 (Sl.int s2 x10 2)) →
((Rng .i64 (Sl.int s2 x10 3)) →
((((Sl.int s2 x10 1) ≥ x3) →
(Rng .i64 (x9 + 0)) ∧
(Rng .i64 (x10 + 1)) ∧
(J8 (x9 + 0) (x10 + 1) ∧ M8 (x9 + 0) (x10 + 1) < M8 x9 x10)) ∧
(¬ ((Sl.int s2 x10 1) ≥ x3) →
((((Sl.int s2 x10 2) = 3) →
(Rng .i64 (x9 + 0)) ∧
(Rng .i64 (x10 + 1)) ∧
(J8 (x9 + 0) (x10 + 1) ∧ M8 (x9 + 0) (x10 + 1) < M8 x9 x10)) ∧
(¬ ((Sl.int s2 x10 2) = 3) →
(Rng .i64 (x9 + (Sl.int s2 x10 3))) ∧
(Rng .i64 (x10 + 1)) ∧
(J8 (x9 + (Sl.int s2 x10 3)) (x10 + 1) ∧ M8 (x9 + (Sl.int s2 x10 3)) (x10 + 1) < M8 x9 x10)))))))))) ∧
(¬ (x10 < (Sl.len s2)) →
(Rng .i64 (x6 - x9)) ∧
(q_Balance x0 s1 s2 x3 (x6 - x9) 0) ∧ True))))))))))))))))))))))))))))))
theorem j_Balance : (vc (A := sem Tb) (cfgAt [16, 21, 38, 15, 36, 37]) 6 17 ⟨[.agg [(.int .i64, false), (.sl 3, false), (.sl 47, false)], .cell (.int .i64) false], [.cell (.int .i64) false, .cell (.int .i64) false]⟩).den = V_Balance := by kernel_rfl
theorem s_Balance (h : SigOk Tb (cfgAt [16, 21, 38, 15, 36, 37])) (hv : V_Balance) : SigOk Tb (cfgAt [17, 16, 21, 38, 15, 36, 37]) := SigOk.next (l := [16, 21, 38, 15, 36, 37]) h (f := 17) (sg := ⟨[.agg [(.int .i64, false), (.sl 3, false), (.sl 47, false)], .cell (.int .i64) false], [.cell (.int .i64) false, .cell (.int .i64) false]⟩) rfl j_Balance hv
def V_Total : Prop :=
(∀ x0 : Int,
((Rng .i64 x0) →
(∀ s1 : Sl,
(∀ s2 : Sl,
(∀ x3 : Int,
((Rng .u8 x3) →
((p_Total x0 s1 s2 x3) →
(p_Valid x0 s1 s2) ∧
(∀ b4 : Bool,
((q_Valid x0 s1 s2 (decide (b4 = true))) →
(((¬ (b4 = true)) →
(q_Total x0 s1 s2 x3 0 2) ∧ True) ∧
(¬ (¬ (b4 = true)) →
(((x3 < 1) →
(q_Total x0 s1 s2 x3 0 2) ∧ True) ∧
(¬ (x3 < 1) →
(((x3 > 6) →
(q_Total x0 s1 s2 x3 0 2) ∧ True) ∧
(¬ (x3 > 6) →
((Small s2) →
(∃ (J5 : Int → Int → Prop) (M5 : Int → Int → Nat), J5 0 0 ∧
(∀ x6 : Int,
((Rng .i64 x6) →
(∀ x7 : Int,
((Rng .i64 x7) →
(J5 x6 x7 →
(((x7 < (Sl.len s2)) →
((0 : Int) ≤ x7) ∧
(x7 < (Sl.len s2)) ∧
((Rng .i64 (Sl.int s2 x7 0)) →
((Rng .i64 (Sl.int s2 x7 1)) →
((Rng .u8 (Sl.int s2 x7 2)) →
((Rng .i64 (Sl.int s2 x7 3)) →
((((Sl.int s2 x7 2) ≠ x3) →
(Rng .i64 (x6 + 0)) ∧
(Rng .i64 (x7 + 1)) ∧
(J5 (x6 + 0) (x7 + 1) ∧ M5 (x6 + 0) (x7 + 1) < M5 x6 x7)) ∧
(¬ ((Sl.int s2 x7 2) ≠ x3) →
(Rng .i64 (x6 + (Sl.int s2 x7 3))) ∧
(Rng .i64 (x7 + 1)) ∧
(J5 (x6 + (Sl.int s2 x7 3)) (x7 + 1) ∧ M5 (x6 + (Sl.int s2 x7 3)) (x7 + 1) < M5 x6 x7)))))))) ∧
(¬ (x7 < (Sl.len s2)) →
(q_Total x0 s1 s2 x3 x6 0) ∧ True))))))))))))))))))))))))
theorem j_Total : (vc (A := sem Tb) (cfgAt [17, 16, 21, 38, 15, 36, 37]) 6 22 ⟨[.agg [(.int .i64, false), (.sl 3, false), (.sl 47, false)], .cell (.int .u8) false], [.cell (.int .i64) false, .cell (.int .i64) false]⟩).den = V_Total := by kernel_rfl
theorem s_Total (h : SigOk Tb (cfgAt [17, 16, 21, 38, 15, 36, 37])) (hv : V_Total) : SigOk Tb (cfgAt [22, 17, 16, 21, 38, 15, 36, 37]) := SigOk.next (l := [17, 16, 21, 38, 15, 36, 37]) h (f := 22) (sg := ⟨[.agg [(.int .i64, false), (.sl 3, false), (.sl 47, false)], .cell (.int .u8) false], [.cell (.int .i64) false, .cell (.int .i64) false]⟩) rfl j_Total hv
def V_Learn : Prop :=
(∀ x0 : Int,
((Rng .i64 x0) →
(∀ s1 : Sl,
(∀ s2 : Sl,
(∀ x3 : Int,
((Rng .i64 x3) →
(∀ x4 : Int,
((Rng .i64 x4) →
((p_Learn x0 s1 s2 x3 x4) →
((Small s1) →
(p_Valid x0 s1 s2) ∧
(∀ b5 : Bool,
((q_Valid x0 s1 s2 (decide (b5 = true))) →
(((¬ (b5 = true)) →
(q_Learn x0 s1 s2 x3 x4 0 Sl.nil Sl.nil 2) ∧ True) ∧
(¬ (¬ (b5 = true)) →
(((x4 < 0) →
(q_Learn x0 s1 s2 x3 x4 0 Sl.nil Sl.nil 2) ∧ True) ∧
(¬ (x4 < 0) →
(((x4 > 1099511627776) →
(q_Learn x0 s1 s2 x3 x4 0 Sl.nil Sl.nil 2) ∧ True) ∧
(¬ (x4 > 1099511627776) →
(((x3 < x0) →
(q_Learn x0 s1 s2 x3 x4 0 Sl.nil Sl.nil 2) ∧ True) ∧
(¬ (x3 < x0) →
(((x3 > (IntKind.wrap .i64 (x0 + (Sl.len s1)))) →
(q_Learn x0 s1 s2 x3 x4 0 Sl.nil Sl.nil 2) ∧ True) ∧
(¬ (x3 > (IntKind.wrap .i64 (x0 + (Sl.len s1)))) →
(((x3 = (IntKind.wrap .i64 (x0 + (Sl.len s1)))) →
((Small s1) →
((((Sl.len s1) ≥ 1200) →
(q_Learn x0 s1 s2 x3 x4 0 Sl.nil Sl.nil 5) ∧ True) ∧
(¬ ((Sl.len s1) ≥ 1200) →
(((x3 ≥ 2400) →
(q_Learn x0 s1 s2 x3 x4 0 Sl.nil Sl.nil 5) ∧ True) ∧
(¬ (x3 ≥ 2400) →
((Small s1) →
((0 : Int) ≤ 0) ∧
((0 : Int) ≤ (IntKind.wrap .i64 ((Sl.len s1) + 1))) ∧
(((IntKind.wrap .i64 ((Sl.len s1) + 1)) * 8) ≤ 140737488355328) ∧
((((Sl.len (Sl.rep 0 [(.int 0)])) + (Sl.len s1)) * 8) ≤ 140737488355328) ∧
(((x3 = (IntKind.wrap .i64 (x0 + (Sl.len s1)))) →
((((Sl.len (Sl.app (Sl.rep 0 [(.int 0)]) s1)) + (Sl.len (Sl.lit [[(.int x4)]]))) * 8) ≤ 140737488355328) ∧
((0 : Int) ≤ (IntKind.wrap .i64 (x3 - x0))) ∧
((IntKind.wrap .i64 (x3 - x0)) < (Sl.len (Sl.app (Sl.app (Sl.rep 0 [(.int 0)]) s1) (Sl.lit [[(.int x4)]])))) ∧
(∀ b6 : Bool,
(((b6 = true) →
(((Sl.len s2) ≤ 0) →
(q_Learn x0 s1 s2 x3 x4 x0 (Sl.upd (Sl.app (Sl.app (Sl.rep 0 [(.int 0)]) s1) (Sl.lit [[(.int x4)]])) (IntKind.wrap .i64 (x3 - x0)) 0 [(.int x4)]) Sl.nil 0) ∧ True)) ∧
(¬ (b6 = true) →
((((Sl.len (Sl.lit [])) + (Sl.len s2)) * 32) ≤ 140737488355328) ∧
(q_Learn x0 s1 s2 x3 x4 x0 (Sl.upd (Sl.app (Sl.app (Sl.rep 0 [(.int 0)]) s1) (Sl.lit [[(.int x4)]])) (IntKind.wrap .i64 (x3 - x0)) 0 [(.int x4)]) (Sl.app (Sl.lit []) s2) 0) ∧ True)))) ∧
(¬ (x3 = (IntKind.wrap .i64 (x0 + (Sl.len s1)))) →
((0 : Int) ≤ (IntKind.wrap .i64 (x3 - x0))) ∧
((IntKind.wrap .i64 (x3 - x0)) < (Sl.len (Sl.app (Sl.rep 0 [(.int 0)]) s1))) ∧
(∀ b6 : Bool,
(((b6 = true) →
(((Sl.len s2) ≤ 0) →
(q_Learn x0 s1 s2 x3 x4 x0 (Sl.upd (Sl.app (Sl.rep 0 [(.int 0)]) s1) (IntKind.wrap .i64 (x3 - x0)) 0 [(.int x4)]) Sl.nil 0) ∧ True)) ∧
(¬ (b6 = true) →
((((Sl.len (Sl.lit [])) + (Sl.len s2)) * 32) ≤ 140737488355328) ∧
(q_Learn x0 s1 s2 x3 x4 x0 (Sl.upd (Sl.app (Sl.rep 0 [(.int 0)]) s1) (IntKind.wrap .i64 (x3 - x0)) 0 [(.int x4)]) (Sl.app (Sl.lit []) s2) 0) ∧ True)))))))))))) ∧
(¬ (x3 = (IntKind.wrap .i64 (x0 + (Sl.len s1)))) →
((Small s1) →
((0 : Int) ≤ 0) ∧
((0 : Int) ≤ (IntKind.wrap .i64 ((Sl.len s1) + 1))) ∧
(((IntKind.wrap .i64 ((Sl.len s1) + 1)) * 8) ≤ 140737488355328) ∧
((((Sl.len (Sl.rep 0 [(.int 0)])) + (Sl.len s1)) * 8) ≤ 140737488355328) ∧
(((x3 = (IntKind.wrap .i64 (x0 + (Sl.len s1)))) →
((((Sl.len (Sl.app (Sl.rep 0 [(.int 0)]) s1)) + (Sl.len (Sl.lit [[(.int x4)]]))) * 8) ≤ 140737488355328) ∧
((0 : Int) ≤ (IntKind.wrap .i64 (x3 - x0))) ∧
((IntKind.wrap .i64 (x3 - x0)) < (Sl.len (Sl.app (Sl.app (Sl.rep 0 [(.int 0)]) s1) (Sl.lit [[(.int x4)]])))) ∧
(∀ b6 : Bool,
(((b6 = true) →
(((Sl.len s2) ≤ 0) →
(q_Learn x0 s1 s2 x3 x4 x0 (Sl.upd (Sl.app (Sl.app (Sl.rep 0 [(.int 0)]) s1) (Sl.lit [[(.int x4)]])) (IntKind.wrap .i64 (x3 - x0)) 0 [(.int x4)]) Sl.nil 0) ∧ True)) ∧
(¬ (b6 = true) →
((((Sl.len (Sl.lit [])) + (Sl.len s2)) * 32) ≤ 140737488355328) ∧
(q_Learn x0 s1 s2 x3 x4 x0 (Sl.upd (Sl.app (Sl.app (Sl.rep 0 [(.int 0)]) s1) (Sl.lit [[(.int x4)]])) (IntKind.wrap .i64 (x3 - x0)) 0 [(.int x4)]) (Sl.app (Sl.lit []) s2) 0) ∧ True)))) ∧
(¬ (x3 = (IntKind.wrap .i64 (x0 + (Sl.len s1)))) →
((0 : Int) ≤ (IntKind.wrap .i64 (x3 - x0))) ∧
((IntKind.wrap .i64 (x3 - x0)) < (Sl.len (Sl.app (Sl.rep 0 [(.int 0)]) s1))) ∧
(∀ b6 : Bool,
(((b6 = true) →
(((Sl.len s2) ≤ 0) →
(q_Learn x0 s1 s2 x3 x4 x0 (Sl.upd (Sl.app (Sl.rep 0 [(.int 0)]) s1) (IntKind.wrap .i64 (x3 - x0)) 0 [(.int x4)]) Sl.nil 0) ∧ True)) ∧
(¬ (b6 = true) →
((((Sl.len (Sl.lit [])) + (Sl.len s2)) * 32) ≤ 140737488355328) ∧
(q_Learn x0 s1 s2 x3 x4 x0 (Sl.upd (Sl.app (Sl.rep 0 [(.int 0)]) s1) (IntKind.wrap .i64 (x3 - x0)) 0 [(.int x4)]) (Sl.app (Sl.lit []) s2) 0) ∧ True))))))))))))))))))))))))))))))
theorem j_Learn : (vc (A := sem Tb) (cfgAt [22, 17, 16, 21, 38, 15, 36, 37]) 6 13 ⟨[.agg [(.int .i64, false), (.sl 3, false), (.sl 47, false)], .cell (.int .i64) false, .cell (.int .i64) false], [.agg [(.int .i64, false), (.sl 3, true), (.sl 47, true)], .cell (.int .i64) false]⟩).den = V_Learn := by kernel_rfl
theorem s_Learn (h : SigOk Tb (cfgAt [22, 17, 16, 21, 38, 15, 36, 37])) (hv : V_Learn) : SigOk Tb (cfgAt [13, 22, 17, 16, 21, 38, 15, 36, 37]) := SigOk.next (l := [22, 17, 16, 21, 38, 15, 36, 37]) h (f := 13) (sg := ⟨[.agg [(.int .i64, false), (.sl 3, false), (.sl 47, false)], .cell (.int .i64) false, .cell (.int .i64) false], [.agg [(.int .i64, false), (.sl 3, true), (.sl 47, true)], .cell (.int .i64) false]⟩) rfl j_Learn hv
def V_At : Prop :=
(∀ x0 : Int,
((Rng .i64 x0) →
(∀ s1 : Sl,
(∀ s2 : Sl,
(∀ x3 : Int,
((Rng .i64 x3) →
((p_At x0 s1 s2 x3) →
(p_Valid x0 s1 s2) ∧
(∀ b4 : Bool,
((q_Valid x0 s1 s2 (decide (b4 = true))) →
(((¬ (b4 = true)) →
(q_At x0 s1 s2 x3 0 Sl.nil Sl.nil 2) ∧ True) ∧
(¬ (¬ (b4 = true)) →
((Small s2) →
(∃ (J5 : Sl → Int → Prop) (M5 : Sl → Int → Nat), J5 Sl.nil 0 ∧
(∀ s6 : Sl,
(∀ x7 : Int,
((Rng .i64 x7) →
(J5 s6 x7 →
(((x7 < (Sl.len s2)) →
((0 : Int) ≤ x7) ∧
(x7 < (Sl.len s2)) ∧
((Rng .i64 (Sl.int s2 x7 0)) →
((Rng .i64 (Sl.int s2 x7 1)) →
((Rng .u8 (Sl.int s2 x7 2)) →
((Rng .i64 (Sl.int s2 x7 3)) →
((((Sl.int s2 x7 0) ≤ x3) →
((((Sl.len s6) + (Sl.len (Sl.lit [[(.int (Sl.int s2 x7 0)), (.int (Sl.int s2 x7 1)), (.int (Sl.int s2 x7 2)), (.int (Sl.int s2 x7 3))]]))) * 32) ≤ 140737488355328) ∧
(Rng .i64 (x7 + 1)) ∧
(J5 (Sl.app s6 (Sl.lit [[(.int (Sl.int s2 x7 0)), (.int (Sl.int s2 x7 1)), (.int (Sl.int s2 x7 2)), (.int (Sl.int s2 x7 3))]])) (x7 + 1) ∧ M5 (Sl.app s6 (Sl.lit [[(.int (Sl.int s2 x7 0)), (.int (Sl.int s2 x7 1)), (.int (Sl.int s2 x7 2)), (.int (Sl.int s2 x7 3))]])) (x7 + 1) < M5 s6 x7)) ∧
(¬ ((Sl.int s2 x7 0) ≤ x3) →
(Rng .i64 (x7 + 1)) ∧
(J5 s6 (x7 + 1) ∧ M5 s6 (x7 + 1) < M5 s6 x7)))))))) ∧
(¬ (x7 < (Sl.len s2)) →
(∀ b8 : Bool,
(((b8 = true) →
(((Sl.len s1) ≤ 0) →
(q_At x0 s1 s2 x3 x0 Sl.nil s6 0) ∧ True)) ∧
(¬ (b8 = true) →
((((Sl.len (Sl.lit [])) + (Sl.len s1)) * 8) ≤ 140737488355328) ∧
(q_At x0 s1 s2 x3 x0 (Sl.app (Sl.lit []) s1) s6 0) ∧ True))))))))))))))))))))))
theorem j_At : (vc (A := sem Tb) (cfgAt [13, 22, 17, 16, 21, 38, 15, 36, 37]) 6 23 ⟨[.agg [(.int .i64, false), (.sl 3, false), (.sl 47, false)], .cell (.int .i64) false], [.agg [(.int .i64, false), (.sl 3, true), (.sl 47, true)], .cell (.int .i64) false]⟩).den = V_At := by kernel_rfl
theorem s_At (h : SigOk Tb (cfgAt [13, 22, 17, 16, 21, 38, 15, 36, 37])) (hv : V_At) : SigOk Tb (cfgAt [23, 13, 22, 17, 16, 21, 38, 15, 36, 37]) := SigOk.next (l := [13, 22, 17, 16, 21, 38, 15, 36, 37]) h (f := 23) (sg := ⟨[.agg [(.int .i64, false), (.sl 3, false), (.sl 47, false)], .cell (.int .i64) false], [.agg [(.int .i64, false), (.sl 3, true), (.sl 47, true)], .cell (.int .i64) false]⟩) rfl j_At hv
def V_Same : Prop :=
(∀ x0 : Int,
((Rng .i64 x0) →
(∀ s1 : Sl,
(∀ s2 : Sl,
(∀ x3 : Int,
((Rng .i64 x3) →
(∀ s4 : Sl,
(∀ s5 : Sl,
((p_Same x0 s1 s2 x3 s4 s5) →
(((x0 ≠ x3) →
(q_Same x0 s1 s2 x3 s4 s5 (decide False)) ∧ True) ∧
(¬ (x0 ≠ x3) →
((Small s1) →
((Small s4) →
((((Sl.len s1) ≠ (Sl.len s4)) →
(q_Same x0 s1 s2 x3 s4 s5 (decide False)) ∧ True) ∧
(¬ ((Sl.len s1) ≠ (Sl.len s4)) →
((Small s2) →
((Small s5) →
((((Sl.len s2) ≠ (Sl.len s5)) →
(q_Same x0 s1 s2 x3 s4 s5 (decide False)) ∧ True) ∧
(¬ ((Sl.len s2) ≠ (Sl.len s5)) →
((Small s1) →
(∃ (J6 : Int → Prop) (M6 : Int → Nat), J6 0 ∧
(∀ x7 : Int,
((Rng .i64 x7) →
(J6 x7 →
(((x7 < (Sl.len s1)) →
((0 : Int) ≤ x7) ∧
(x7 < (Sl.len s1)) ∧
((Rng .i64 (Sl.int s1 x7 0)) →
((0 : Int) ≤ x7) ∧
(x7 < (Sl.len s4)) ∧
((Rng .i64 (Sl.int s4 x7 0)) →
((((Sl.int s1 x7 0) ≠ (Sl.int s4 x7 0)) →
(q_Same x0 s1 s2 x3 s4 s5 (decide False)) ∧ True) ∧
(¬ ((Sl.int s1 x7 0) ≠ (Sl.int s4 x7 0)) →
(Rng .i64 (x7 + 1)) ∧
(J6 (x7 + 1) ∧ M6 (x7 + 1) < M6 x7)))))) ∧
(¬ (x7 < (Sl.len s1)) →
((Small s2) →
(∃ (J8 : Int → Prop) (M8 : Int → Nat), J8 0 ∧
(∀ x9 : Int,
((Rng .i64 x9) →
(J8 x9 →
(((x9 < (Sl.len s2)) →
((0 : Int) ≤ x9) ∧
(x9 < (Sl.len s2)) ∧
((Rng .i64 (Sl.int s2 x9 0)) →
((Rng .i64 (Sl.int s2 x9 1)) →
((Rng .u8 (Sl.int s2 x9 2)) →
((Rng .i64 (Sl.int s2 x9 3)) →
((0 : Int) ≤ x9) ∧
(x9 < (Sl.len s5)) ∧
((Rng .i64 (Sl.int s5 x9 0)) →
((Rng .i64 (Sl.int s5 x9 1)) →
((Rng .u8 (Sl.int s5 x9 2)) →
((Rng .i64 (Sl.int s5 x9 3)) →
(((¬ (((Sl.int s2 x9 0) = (Sl.int s5 x9 0)) ∧ (((Sl.int s2 x9 1) = (Sl.int s5 x9 1)) ∧ (((Sl.int s2 x9 2) = (Sl.int s5 x9 2)) ∧ ((Sl.int s2 x9 3) = (Sl.int s5 x9 3)))))) →
(q_Same x0 s1 s2 x3 s4 s5 (decide False)) ∧ True) ∧
(¬ (¬ (((Sl.int s2 x9 0) = (Sl.int s5 x9 0)) ∧ (((Sl.int s2 x9 1) = (Sl.int s5 x9 1)) ∧ (((Sl.int s2 x9 2) = (Sl.int s5 x9 2)) ∧ ((Sl.int s2 x9 3) = (Sl.int s5 x9 3)))))) →
(Rng .i64 (x9 + 1)) ∧
(J8 (x9 + 1) ∧ M8 (x9 + 1) < M8 x9)))))))))))) ∧
(¬ (x9 < (Sl.len s2)) →
(q_Same x0 s1 s2 x3 s4 s5 (decide True)) ∧ True)))))))))))))))))))))))))))))))))
theorem j_Same : (vc (A := sem Tb) (cfgAt [23, 13, 22, 17, 16, 21, 38, 15, 36, 37]) 6 14 ⟨[.agg [(.int .i64, false), (.sl 3, false), (.sl 47, false)], .agg [(.int .i64, false), (.sl 3, false), (.sl 47, false)]], [.cell (.bool) false]⟩).den = V_Same := by kernel_rfl
theorem s_Same (h : SigOk Tb (cfgAt [23, 13, 22, 17, 16, 21, 38, 15, 36, 37])) (hv : V_Same) : SigOk Tb (cfgAt [14, 23, 13, 22, 17, 16, 21, 38, 15, 36, 37]) := SigOk.next (l := [23, 13, 22, 17, 16, 21, 38, 15, 36, 37]) h (f := 14) (sg := ⟨[.agg [(.int .i64, false), (.sl 3, false), (.sl 47, false)], .agg [(.int .i64, false), (.sl 3, false), (.sl 47, false)]], [.cell (.bool) false]⟩) rfl j_Same hv
def V_Few : Prop :=
(∀ x0 : Int,
((Rng .i64 x0) →
(∀ s1 : Sl,
(∀ s2 : Sl,
((p_Few x0 s1 s2) →
((Small s1) →
((((Sl.len s1) ≤ 40) →
((Small s2) →
((((Sl.len s2) ≤ 60) →
(q_Few x0 s1 s2 (decide True)) ∧ True) ∧
(¬ ((Sl.len s2) ≤ 60) →
((Small s2) →
((((Sl.len s2) > 4000) →
((Small s2) →
(q_Few x0 s1 s2 (decide ((Sl.len s2) ≤ 4002))) ∧ True)) ∧
(¬ ((Sl.len s2) > 4000) →
(q_Few x0 s1 s2 (decide False)) ∧ True))))))) ∧
(¬ ((Sl.len s1) ≤ 40) →
((Small s1) →
((((Sl.len s1) > 1200) →
((Small s1) →
((((Sl.len s1) ≤ 1202) →
((Small s2) →
((((Sl.len s2) ≤ 60) →
(q_Few x0 s1 s2 (decide True)) ∧ True) ∧
(¬ ((Sl.len s2) ≤ 60) →
((Small s2) →
((((Sl.len s2) > 4000) →
((Small s2) →
(q_Few x0 s1 s2 (decide ((Sl.len s2) ≤ 4002))) ∧ True)) ∧
(¬ ((Sl.len s2) > 4000) →
(q_Few x0 s1 s2 (decide False)) ∧ True))))))) ∧
(¬ ((Sl.len s1) ≤ 1202) →
(q_Few x0 s1 s2 (decide False)) ∧ True)))) ∧
(¬ ((Sl.len s1) > 1200) →
(q_Few x0 s1 s2 (decide False)) ∧ True)))))))))))
theorem j_Few : (vc (A := sem Tb) (cfgAt [14, 23, 13, 22, 17, 16, 21, 38, 15, 36, 37]) 6 18 ⟨[.agg [(.int .i64, false), (.sl 3, false), (.sl 47, false)]], [.cell (.bool) false]⟩).den = V_Few := by kernel_rfl
theorem s_Few (h : SigOk Tb (cfgAt [14, 23, 13, 22, 17, 16, 21, 38, 15, 36, 37])) (hv : V_Few) : SigOk Tb (cfgAt [18, 14, 23, 13, 22, 17, 16, 21, 38, 15, 36, 37]) := SigOk.next (l := [14, 23, 13, 22, 17, 16, 21, 38, 15, 36, 37]) h (f := 18) (sg := ⟨[.agg [(.int .i64, false), (.sl 3, false), (.sl 47, false)]], [.cell (.bool) false]⟩) rfl j_Few hv
def V_usable : Prop :=
(∀ x0 : Int,
((Rng .i64 x0) →
(∀ s1 : Sl,
(∀ s2 : Sl,
((p_usable x0 s1 s2) →
((Small s1) →
((((Sl.len s1) ≤ 40) →
((Small s2) →
((((Sl.len s2) ≤ 60) →
(p_Valid x0 s1 s2) ∧
(∀ b3 : Bool,
((q_Valid x0 s1 s2 (decide (b3 = true))) →
(q_usable x0 s1 s2 (decide (b3 = true))) ∧ True))) ∧
(¬ ((Sl.len s2) ≤ 60) →
(q_usable x0 s1 s2 (decide False)) ∧ True)))) ∧
(¬ ((Sl.len s1) ≤ 40) →
(q_usable x0 s1 s2 (decide False)) ∧ True))))))))
theorem j_usable : (vc (A := sem Tb) (cfgAt [18, 14, 23, 13, 22, 17, 16, 21, 38, 15, 36, 37]) 6 11 ⟨[.agg [(.int .i64, false), (.sl 3, false), (.sl 47, false)]], [.cell (.bool) false]⟩).den = V_usable := by kernel_rfl
theorem s_usable (h : SigOk Tb (cfgAt [18, 14, 23, 13, 22, 17, 16, 21, 38, 15, 36, 37])) (hv : V_usable) : SigOk Tb (cfgAt [11, 18, 14, 23, 13, 22, 17, 16, 21, 38, 15, 36, 37]) := SigOk.next (l := [18, 14, 23, 13, 22, 17, 16, 21, 38, 15, 36, 37]) h (f := 11) (sg := ⟨[.agg [(.int .i64, false), (.sl 3, false), (.sl 47, false)]], [.cell (.bool) false]⟩) rfl j_usable hv
def V_example : Prop :=
((p_example ) →
(q_example  1500 (Sl.lit [[(.int 100)], [(.int 100)], [(.int 120)]]) (Sl.lit [[(.int 45000), (.int 1500), (.int 1), (.int 100)], [(.int 45000), (.int 1501), (.int 1), (.int 90)], [(.int 45000), (.int 1501), (.int 3), (.int 3)], [(.int 45030), (.int 1502), (.int 1), (.int 150)], [(.int 45030), (.int 1502), (.int 4), (.int (-20))]])) ∧ True)
theorem j_example : (vc (A := sem Tb) (cfgAt [11, 18, 14, 23, 13, 22, 17, 16, 21, 38, 15, 36, 37]) 6 32 ⟨[], [.agg [(.int .i64, false), (.sl 3, true), (.sl 47, true)]]⟩).den = V_example := by kernel_rfl
theorem s_example (h : SigOk Tb (cfgAt [11, 18, 14, 23, 13, 22, 17, 16, 21, 38, 15, 36, 37])) (hv : V_example) : SigOk Tb (cfgAt [32, 11, 18, 14, 23, 13, 22, 17, 16, 21, 38, 15, 36, 37]) := SigOk.next (l := [11, 18, 14, 23, 13, 22, 17, 16, 21, 38, 15, 36, 37]) h (f := 32) (sg := ⟨[], [.agg [(.int .i64, false), (.sl 3, true), (.sl 47, true)]]⟩) rfl j_example hv
def V_awake : Prop :=
((p_awake ) →
(p_example ) ∧
(∀ x0 : Int,
((Rng .i64 x0) →
(∀ s1 : Sl,
(∀ s2 : Sl,
((q_example  x0 s1 s2) →
((Small (Sl.lit [[(.int 0)], [(.int 10)], [(.int (-10))]])) →
(∃ (J3 : Int → Prop) (M3 : Int → Nat), J3 0 ∧
(∀ x4 : Int,
((Rng .i64 x4) →
(J3 x4 →
(((x4 < (Sl.len (Sl.lit [[(.int 0)], [(.int 10)], [(.int (-10))]]))) →
((0 : Int) ≤ x4) ∧
(x4 < (Sl.len (Sl.lit [[(.int 0)], [(.int 10)], [(.int (-10))]]))) ∧
((Rng .i64 (Sl.int (Sl.lit [[(.int 0)], [(.int 10)], [(.int (-10))]]) x4 0)) →
(Rng .i64 (1500 + x4)) ∧
(p_Open x0 s1 s2 (1500 + x4)) ∧
(∀ x5 : Int,
((Rng .i64 x5) →
(∀ x6 : Int,
((Rng .i64 x6) →
((q_Open x0 s1 s2 (1500 + x4) x5 x6) →
(((x5 ≠ (Sl.int (Sl.lit [[(.int 0)], [(.int 10)], [(.int (-10))]]) x4 0)) →
(q_awake  (decide False)) ∧ True) ∧
(¬ (x5 ≠ (Sl.int (Sl.lit [[(.int 0)], [(.int 10)], [(.int (-10))]]) x4 0)) →
(((x6 ≠ 0) →
(q_awake  (decide False)) ∧ True) ∧
(¬ (x6 ≠ 0) →
(Rng .i64 (x4 + 1)) ∧
(J3 (x4 + 1) ∧ M3 (x4 + 1) < M3 x4)))))))))))) ∧
(¬ (x4 < (Sl.len (Sl.lit [[(.int 0)], [(.int 10)], [(.int (-10))]]))) →
(p_Balance x0 s1 s2 1502) ∧
(∀ x5 : Int,
((Rng .i64 x5) →
(∀ x6 : Int,
((Rng .i64 x6) →
((q_Balance x0 s1 s2 1502 x5 x6) →
(p_Balance x0 s1 s2 1503) ∧
(∀ x7 : Int,
((Rng .i64 x7) →
(∀ x8 : Int,
((Rng .i64 x8) →
((q_Balance x0 s1 s2 1503 x7 x8) →
(p_Learn x0 s1 s2 1500 80) ∧
(∀ x9 : Int,
((Rng .i64 x9) →
(∀ s10 : Sl,
(∀ s11 : Sl,
(∀ x12 : Int,
((Rng .i64 x12) →
((q_Learn x0 s1 s2 1500 80 x9 s10 s11 x12) →
(p_Open x9 s10 s11 1500) ∧
(∀ x13 : Int,
((Rng .i64 x13) →
(∀ x14 : Int,
((Rng .i64 x14) →
((q_Open x9 s10 s11 1500 x13 x14) →
(p_At x0 s1 s2 45000) ∧
(∀ x15 : Int,
((Rng .i64 x15) →
(∀ s16 : Sl,
(∀ s17 : Sl,
(∀ x18 : Int,
((Rng .i64 x18) →
((q_At x0 s1 s2 45000 x15 s16 s17 x18) →
(p_Open x15 s16 s17 1502) ∧
(∀ x19 : Int,
((Rng .i64 x19) →
(∀ x20 : Int,
((Rng .i64 x20) →
((q_Open x15 s16 s17 1502 x19 x20) →
(Rng .i64 (x6 + x8)) ∧
(Rng .i64 ((x6 + x8) + x12)) ∧
(Rng .i64 (((x6 + x8) + x12) + x14)) ∧
(Rng .i64 ((((x6 + x8) + x12) + x14) + x18)) ∧
(Rng .i64 (((((x6 + x8) + x12) + x14) + x18) + x20)) ∧
((((((((x6 + x8) + x12) + x14) + x18) + x20) = 0) →
(((x5 = 10) →
(((x7 = 0) →
(((x13 = (-20)) →
(q_awake  (decide (x19 = 120))) ∧ True) ∧
(¬ (x13 = (-20)) →
(q_awake  (decide False)) ∧ True))) ∧
(¬ (x7 = 0) →
(q_awake  (decide False)) ∧ True))) ∧
(¬ (x5 = 10) →
(q_awake  (decide False)) ∧ True))) ∧
(¬ ((((((x6 + x8) + x12) + x14) + x18) + x20) = 0) →
(q_awake  (decide False)) ∧ True)))))))))))))))))))))))))))))))))))))))))))))))))
theorem j_awake : (vc (A := sem Tb) (cfgAt [32, 11, 18, 14, 23, 13, 22, 17, 16, 21, 38, 15, 36, 37]) 6 12 ⟨[], [.cell (.bool) false]⟩).den = V_awake := by kernel_rfl
theorem s_awake (h : SigOk Tb (cfgAt [32, 11, 18, 14, 23, 13, 22, 17, 16, 21, 38, 15, 36, 37])) (hv : V_awake) : SigOk Tb (cfgAt [12, 32, 11, 18, 14, 23, 13, 22, 17, 16, 21, 38, 15, 36, 37]) := SigOk.next (l := [32, 11, 18, 14, 23, 13, 22, 17, 16, 21, 38, 15, 36, 37]) h (f := 12) (sg := ⟨[], [.cell (.bool) false]⟩) rfl j_awake hv
def V_copied : Prop :=
(∀ x0 : Int,
((Rng .i64 x0) →
(∀ s1 : Sl,
(∀ s2 : Sl,
((p_copied x0 s1 s2) →
((((((((Sl.len (Sl.lit [])) + (Sl.len s1)) * 8) ≤ 140737488355328) ∧
((((Sl.len (Sl.lit [])) + (Sl.len s2)) * 32) ≤ 140737488355328) ∧
(q_copied x0 s1 s2 x0 (Sl.app (Sl.lit []) s1) (Sl.app (Sl.lit []) s2)) ∧ True) ∧
(((((Sl.len (Sl.lit [])) + (Sl.len s1)) * 8) ≤ 140737488355328) ∧
((((Sl.len (Sl.lit [])) + (Sl.len s2)) * 32) ≤ 140737488355328) ∧
(q_copied x0 s1 s2 x0 (Sl.app (Sl.lit []) s1) (Sl.app (Sl.lit []) s2)) ∧ True))) ∧
(((((Sl.len (Sl.lit [])) + (Sl.len s1)) * 8) ≤ 140737488355328) ∧
((((Sl.len (Sl.lit [])) + (Sl.len s2)) * 32) ≤ 140737488355328) ∧
(q_copied x0 s1 s2 x0 (Sl.app (Sl.lit []) s1) (Sl.app (Sl.lit []) s2)) ∧ True)))))))
theorem j_copied : (vc (A := sem Tb) (cfgAt [12, 32, 11, 18, 14, 23, 13, 22, 17, 16, 21, 38, 15, 36, 37]) 6 19 ⟨[.agg [(.int .i64, false), (.sl 3, false), (.sl 47, false)]], [.agg [(.int .i64, false), (.sl 3, true), (.sl 47, true)]]⟩).den = V_copied := by kernel_rfl
theorem s_copied (h : SigOk Tb (cfgAt [12, 32, 11, 18, 14, 23, 13, 22, 17, 16, 21, 38, 15, 36, 37])) (hv : V_copied) : SigOk Tb (cfgAt [19, 12, 32, 11, 18, 14, 23, 13, 22, 17, 16, 21, 38, 15, 36, 37]) := SigOk.next (l := [12, 32, 11, 18, 14, 23, 13, 22, 17, 16, 21, 38, 15, 36, 37]) h (f := 19) (sg := ⟨[.agg [(.int .i64, false), (.sl 3, false), (.sl 47, false)]], [.agg [(.int .i64, false), (.sl 3, true), (.sl 47, true)]]⟩) rfl j_copied hv
def V_rHas : Prop :=
(∀ x0 : Int,
((Rng .i64 x0) →
(∀ s1 : Sl,
(∀ s2 : Sl,
(∀ x3 : Int,
((Rng .i64 x3) →
((p_rHas x0 s1 s2 x3) →
(∃ (J4 : Int → Prop) (M4 : Int → Nat), J4 0 ∧
(∀ x5 : Int,
((Rng .i64 x5) →
(J4 x5 →
((Small s1) →
(((x5 < (Sl.len s1)) →
(Rng .i64 (x0 + x5)) ∧
((((x0 + x5) = x3) →
(q_rHas x0 s1 s2 x3 (decide True)) ∧ True) ∧
(¬ ((x0 + x5) = x3) →
(Rng .i64 (x5 + 1)) ∧
(J4 (x5 + 1) ∧ M4 (x5 + 1) < M4 x5)))) ∧
(¬ (x5 < (Sl.len s1)) →
(q_rHas x0 s1 s2 x3 (decide False)) ∧ True))))))))))))))
theorem j_rHas : (vc (A := sem Tb) (cfgAt [19, 12, 32, 11, 18, 14, 23, 13, 22, 17, 16, 21, 38, 15, 36, 37]) 6 24 ⟨[.agg [(.int .i64, false), (.sl 3, false), (.sl 47, false)], .cell (.int .i64) false], [.cell (.bool) false]⟩).den = V_rHas := by kernel_rfl
theorem s_rHas (h : SigOk Tb (cfgAt [19, 12, 32, 11, 18, 14, 23, 13, 22, 17, 16, 21, 38, 15, 36, 37])) (hv : V_rHas) : SigOk Tb (cfgAt [24, 19, 12, 32, 11, 18, 14, 23, 13, 22, 17, 16, 21, 38, 15, 36, 37]) := SigOk.next (l := [19, 12, 32, 11, 18, 14, 23, 13, 22, 17, 16, 21, 38, 15, 36, 37]) h (f := 24) (sg := ⟨[.agg [(.int .i64, false), (.sl 3, false), (.sl 47, false)], .cell (.int .i64) false], [.cell (.bool) false]⟩) rfl j_rHas hv
def V_rRight : Prop :=
(∀ x0 : Int,
((Rng .i64 x0) →
(∀ s1 : Sl,
(∀ s2 : Sl,
(∀ x3 : Int,
((Rng .i64 x3) →
(∀ x4 : Int,
((Rng .i64 x4) →
(∀ x5 : Int,
((Rng .u8 x5) →
(∀ x6 : Int,
((Rng .i64 x6) →
((p_rRight x0 s1 s2 x3 x4 x5 x6) →
(((x3 < 0) →
(q_rRight x0 s1 s2 x3 x4 x5 x6 (decide False)) ∧ True) ∧
(¬ (x3 < 0) →
(((x3 ≥ 65536) →
(q_rRight x0 s1 s2 x3 x4 x5 x6 (decide False)) ∧ True) ∧
(¬ (x3 ≥ 65536) →
(p_rHas x0 s1 s2 x4) ∧
(∀ b7 : Bool,
((q_rHas x0 s1 s2 x4 (decide (b7 = true))) →
(((¬ (b7 = true)) →
(q_rRight x0 s1 s2 x3 x4 x5 x6 (decide False)) ∧ True) ∧
(¬ (¬ (b7 = true)) →
(((x5 < 1) →
(q_rRight x0 s1 s2 x3 x4 x5 x6 (decide False)) ∧ True) ∧
(¬ (x5 < 1) →
(((x5 > 6) →
(q_rRight x0 s1 s2 x3 x4 x5 x6 (decide False)) ∧ True) ∧
(¬ (x5 > 6) →
(((x5 ≤ 3) →
(((x6 ≥ 0) →
(q_rRight x0 s1 s2 x3 x4 x5 x6 (decide (x6 ≤ 1099511627776))) ∧ True) ∧
(¬ (x6 ≥ 0) →
(q_rRight x0 s1 s2 x3 x4 x5 x6 (decide False)) ∧ True))) ∧
(¬ (x5 ≤ 3) →
(((x5 = 6) →
(((x6 ≥ 0) →
(q_rRight x0 s1 s2 x3 x4 x5 x6 (decide (x6 ≤ 1099511627776))) ∧ True) ∧
(¬ (x6 ≥ 0) →
(q_rRight x0 s1 s2 x3 x4 x5 x6 (decide False)) ∧ True))) ∧
(¬ (x5 = 6) →
(((x6 ≤ 0) →
(q_rRight x0 s1 s2 x3 x4 x5 x6 (decide (x6 ≥ (-1099511627776)))) ∧ True) ∧
(¬ (x6 ≤ 0) →
(q_rRight x0 s1 s2 x3 x4 x5 x6 (decide False)) ∧ True)))))))))))))))))))))))))))))))
theorem j_rRight : (vc (A := sem Tb) (cfgAt [24, 19, 12, 32, 11, 18, 14, 23, 13, 22, 17, 16, 21, 38, 15, 36, 37]) 6 51 ⟨[.agg [(.int .i64, false), (.sl 3, false), (.sl 47, false)], .agg [(.int .i64, false), (.int .i64, false), (.int .u8, false), (.int .i64, false)]], [.cell (.bool) false]⟩).den = V_rRight := by kernel_rfl
theorem s_rRight (h : SigOk Tb (cfgAt [24, 19, 12, 32, 11, 18, 14, 23, 13, 22, 17, 16, 21, 38, 15, 36, 37])) (hv : V_rRight) : SigOk Tb (cfgAt [51, 24, 19, 12, 32, 11, 18, 14, 23, 13, 22, 17, 16, 21, 38, 15, 36, 37]) := SigOk.next (l := [24, 19, 12, 32, 11, 18, 14, 23, 13, 22, 17, 16, 21, 38, 15, 36, 37]) h (f := 51) (sg := ⟨[.agg [(.int .i64, false), (.sl 3, false), (.sl 47, false)], .agg [(.int .i64, false), (.int .i64, false), (.int .u8, false), (.int .i64, false)]], [.cell (.bool) false]⟩) rfl j_rRight hv
def V_rPosts : Prop :=
(∀ x0 : Int,
((Rng .i64 x0) →
(∀ s1 : Sl,
(∀ s2 : Sl,
(∀ s3 : Sl,
((p_rPosts x0 s1 s2 s3) →
(∃ (J4 : Int → Prop) (M4 : Int → Nat), J4 0 ∧
(∀ x5 : Int,
((Rng .i64 x5) →
(J4 x5 →
((Small s3) →
(((x5 < (Sl.len s3)) →
((0 : Int) ≤ x5) ∧
(x5 < (Sl.len s3)) ∧
((Rng .i64 (Sl.int s3 x5 0)) →
((Rng .i64 (Sl.int s3 x5 1)) →
((Rng .u8 (Sl.int s3 x5 2)) →
((Rng .i64 (Sl.int s3 x5 3)) →
(p_rRight x0 s1 s2 (Sl.int s3 x5 0) (Sl.int s3 x5 1) (Sl.int s3 x5 2) (Sl.int s3 x5 3)) ∧
(∀ b6 : Bool,
((q_rRight x0 s1 s2 (Sl.int s3 x5 0) (Sl.int s3 x5 1) (Sl.int s3 x5 2) (Sl.int s3 x5 3) (decide (b6 = true))) →
(((¬ (b6 = true)) →
(q_rPosts x0 s1 s2 s3 (decide False)) ∧ True) ∧
(¬ (¬ (b6 = true)) →
(((x5 > 0) →
(Rng .i64 (x5 - 1)) ∧
((0 : Int) ≤ (x5 - 1)) ∧
((x5 - 1) < (Sl.len s3)) ∧
((Rng .i64 (Sl.int s3 (x5 - 1) 0)) →
((0 : Int) ≤ x5) ∧
(x5 < (Sl.len s3)) ∧
((Rng .i64 (Sl.int s3 x5 0)) →
((((Sl.int s3 (x5 - 1) 0) > (Sl.int s3 x5 0)) →
(q_rPosts x0 s1 s2 s3 (decide False)) ∧ True) ∧
(¬ ((Sl.int s3 (x5 - 1) 0) > (Sl.int s3 x5 0)) →
(Rng .i64 (x5 + 1)) ∧
(J4 (x5 + 1) ∧ M4 (x5 + 1) < M4 x5)))))) ∧
(¬ (x5 > 0) →
(Rng .i64 (x5 + 1)) ∧
(J4 (x5 + 1) ∧ M4 (x5 + 1) < M4 x5)))))))))))) ∧
(¬ (x5 < (Sl.len s3)) →
(q_rPosts x0 s1 s2 s3 (decide True)) ∧ True)))))))))))))
theorem j_rPosts : (vc (A := sem Tb) (cfgAt [51, 24, 19, 12, 32, 11, 18, 14, 23, 13, 22, 17, 16, 21, 38, 15, 36, 37]) 6 44 ⟨[.agg [(.int .i64, false), (.sl 3, false), (.sl 47, false)], .cell (.sl 47) false], [.cell (.bool) false]⟩).den = V_rPosts := by kernel_rfl
theorem s_rPosts (h : SigOk Tb (cfgAt [51, 24, 19, 12, 32, 11, 18, 14, 23, 13, 22, 17, 16, 21, 38, 15, 36, 37])) (hv : V_rPosts) : SigOk Tb (cfgAt [44, 51, 24, 19, 12, 32, 11, 18, 14, 23, 13, 22, 17, 16, 21, 38, 15, 36, 37]) := SigOk.next (l := [51, 24, 19, 12, 32, 11, 18, 14, 23, 13, 22, 17, 16, 21, 38, 15, 36, 37]) h (f := 44) (sg := ⟨[.agg [(.int .i64, false), (.sl 3, false), (.sl 47, false)], .cell (.sl 47) false], [.cell (.bool) false]⟩) rfl j_rPosts hv
def V_rValid : Prop :=
(∀ x0 : Int,
((Rng .i64 x0) →
(∀ s1 : Sl,
(∀ s2 : Sl,
((p_rValid x0 s1 s2) →
(((x0 < 0) →
(q_rValid x0 s1 s2 (decide False)) ∧ True) ∧
(¬ (x0 < 0) →
(((x0 > 2400) →
(q_rValid x0 s1 s2 (decide False)) ∧ True) ∧
(¬ (x0 > 2400) →
((Small s1) →
((((Sl.len s1) > 1200) →
(q_rValid x0 s1 s2 (decide False)) ∧ True) ∧
(¬ ((Sl.len s1) > 1200) →
((Small s1) →
(Rng .i64 (x0 + (Sl.len s1))) ∧
((((x0 + (Sl.len s1)) > 2400) →
(q_rValid x0 s1 s2 (decide False)) ∧ True) ∧
(¬ ((x0 + (Sl.len s1)) > 2400) →
((Small s2) →
((((Sl.len s2) > 4000) →
(q_rValid x0 s1 s2 (decide False)) ∧ True) ∧
(¬ ((Sl.len s2) > 4000) →
(∃ (J3 : Int → Prop) (M3 : Int → Nat), J3 0 ∧
(∀ x4 : Int,
((Rng .i64 x4) →
(J3 x4 →
((Small s1) →
(((x4 < (Sl.len s1)) →
((0 : Int) ≤ x4) ∧
(x4 < (Sl.len s1)) ∧
((Rng .i64 (Sl.int s1 x4 0)) →
((((Sl.int s1 x4 0) < 0) →
(q_rValid x0 s1 s2 (decide False)) ∧ True) ∧
(¬ ((Sl.int s1 x4 0) < 0) →
((0 : Int) ≤ x4) ∧
(x4 < (Sl.len s1)) ∧
((Rng .i64 (Sl.int s1 x4 0)) →
((((Sl.int s1 x4 0) > 1099511627776) →
(q_rValid x0 s1 s2 (decide False)) ∧ True) ∧
(¬ ((Sl.int s1 x4 0) > 1099511627776) →
(Rng .i64 (x4 + 1)) ∧
(J3 (x4 + 1) ∧ M3 (x4 + 1) < M3 x4)))))))) ∧
(¬ (x4 < (Sl.len s1)) →
(p_rPosts x0 s1 s2 s2) ∧
(∀ b5 : Bool,
((q_rPosts x0 s1 s2 s2 (decide (b5 = true))) →
(q_rValid x0 s1 s2 (decide (b5 = true))) ∧ True)))))))))))))))))))))))))))
theorem j_rValid : (vc (A := sem Tb) (cfgAt [44, 51, 24, 19, 12, 32, 11, 18, 14, 23, 13, 22, 17, 16, 21, 38, 15, 36, 37]) 6 20 ⟨[.agg [(.int .i64, false), (.sl 3, false), (.sl 47, false)]], [.cell (.bool) false]⟩).den = V_rValid := by kernel_rfl
theorem s_rValid (h : SigOk Tb (cfgAt [44, 51, 24, 19, 12, 32, 11, 18, 14, 23, 13, 22, 17, 16, 21, 38, 15, 36, 37])) (hv : V_rValid) : SigOk Tb (cfgAt [20, 44, 51, 24, 19, 12, 32, 11, 18, 14, 23, 13, 22, 17, 16, 21, 38, 15, 36, 37]) := SigOk.next (l := [44, 51, 24, 19, 12, 32, 11, 18, 14, 23, 13, 22, 17, 16, 21, 38, 15, 36, 37]) h (f := 20) (sg := ⟨[.agg [(.int .i64, false), (.sl 3, false), (.sl 47, false)]], [.cell (.bool) false]⟩) rfl j_rValid hv
def V_rPosted : Prop :=
(∀ x0 : Int,
((Rng .i64 x0) →
(∀ s1 : Sl,
(∀ s2 : Sl,
(∀ x3 : Int,
((Rng .i64 x3) →
((p_rPosted x0 s1 s2 x3) →
(∃ (J4 : Int → Int → Prop) (M4 : Int → Int → Nat), J4 0 0 ∧
(∀ x5 : Int,
((Rng .i64 x5) →
(∀ x6 : Int,
((Rng .i64 x6) →
(J4 x5 x6 →
((Small s2) →
(((x6 < (Sl.len s2)) →
((0 : Int) ≤ x6) ∧
(x6 < (Sl.len s2)) ∧
((Rng .i64 (Sl.int s2 x6 1)) →
((((Sl.int s2 x6 1) = x3) →
((0 : Int) ≤ x6) ∧
(x6 < (Sl.len s2)) ∧
((Rng .u8 (Sl.int s2 x6 2)) →
((((Sl.int s2 x6 2) ≠ 3) →
((0 : Int) ≤ x6) ∧
(x6 < (Sl.len s2)) ∧
((Rng .i64 (Sl.int s2 x6 3)) →
(Rng .i64 (x5 + (Sl.int s2 x6 3))) ∧
(Rng .i64 (x6 + 1)) ∧
(J4 (x5 + (Sl.int s2 x6 3)) (x6 + 1) ∧ M4 (x5 + (Sl.int s2 x6 3)) (x6 + 1) < M4 x5 x6))) ∧
(¬ ((Sl.int s2 x6 2) ≠ 3) →
(Rng .i64 (x6 + 1)) ∧
(J4 x5 (x6 + 1) ∧ M4 x5 (x6 + 1) < M4 x5 x6))))) ∧
(¬ ((Sl.int s2 x6 1) = x3) →
(Rng .i64 (x6 + 1)) ∧
(J4 x5 (x6 + 1) ∧ M4 x5 (x6 + 1) < M4 x5 x6))))) ∧
(¬ (x6 < (Sl.len s2)) →
(q_rPosted x0 s1 s2 x3 x5) ∧ True))))))))))))))))
theorem j_rPosted : (vc (A := sem Tb) (cfgAt [20, 44, 51, 24, 19, 12, 32, 11, 18, 14, 23, 13, 22, 17, 16, 21, 38, 15, 36, 37]) 6 25 ⟨[.agg [(.int .i64, false), (.sl 3, false), (.sl 47, false)], .cell (.int .i64) false], [.cell (.int .i64) false]⟩).den = V_rPosted := by kernel_rfl
theorem s_rPosted (h : SigOk Tb (cfgAt [20, 44, 51, 24, 19, 12, 32, 11, 18, 14, 23, 13, 22, 17, 16, 21, 38, 15, 36, 37])) (hv : V_rPosted) : SigOk Tb (cfgAt [25, 20, 44, 51, 24, 19, 12, 32, 11, 18, 14, 23, 13, 22, 17, 16, 21, 38, 15, 36, 37]) := SigOk.next (l := [20, 44, 51, 24, 19, 12, 32, 11, 18, 14, 23, 13, 22, 17, 16, 21, 38, 15, 36, 37]) h (f := 25) (sg := ⟨[.agg [(.int .i64, false), (.sl 3, false), (.sl 47, false)], .cell (.int .i64) false], [.cell (.int .i64) false]⟩) rfl j_rPosted hv
def V_rBalance : Prop :=
(∀ x0 : Int,
((Rng .i64 x0) →
(∀ s1 : Sl,
(∀ s2 : Sl,
(∀ x3 : Int,
((Rng .i64 x3) →
((p_rBalance x0 s1 s2 x3) →
(∃ (J4 : Int → Int → Prop) (M4 : Int → Int → Nat), J4 0 0 ∧
(∀ x5 : Int,
((Rng .i64 x5) →
(∀ x6 : Int,
((Rng .i64 x6) →
(J4 x5 x6 →
((Small s1) →
(((x6 < (Sl.len s1)) →
(Rng .i64 (x0 + x6)) ∧
((((x0 + x6) < x3) →
((0 : Int) ≤ x6) ∧
(x6 < (Sl.len s1)) ∧
((Rng .i64 (Sl.int s1 x6 0)) →
(Rng .i64 (x5 + (Sl.int s1 x6 0))) ∧
(Rng .i64 (x0 + x6)) ∧
(p_rPosted x0 s1 s2 (x0 + x6)) ∧
(∀ x7 : Int,
((Rng .i64 x7) →
((q_rPosted x0 s1 s2 (x0 + x6) x7) →
(Rng .i64 ((x5 + (Sl.int s1 x6 0)) - x7)) ∧
(Rng .i64 (x6 + 1)) ∧
(J4 ((x5 + (Sl.int s1 x6 0)) - x7) (x6 + 1) ∧ M4 ((x5 + (Sl.int s1 x6 0)) - x7) (x6 + 1) < M4 x5 x6)))))) ∧
(¬ ((x0 + x6) < x3) →
(Rng .i64 (x6 + 1)) ∧
(J4 x5 (x6 + 1) ∧ M4 x5 (x6 + 1) < M4 x5 x6)))) ∧
(¬ (x6 < (Sl.len s1)) →
(q_rBalance x0 s1 s2 x3 x5) ∧ True))))))))))))))))
theorem j_rBalance : (vc (A := sem Tb) (cfgAt [25, 20, 44, 51, 24, 19, 12, 32, 11, 18, 14, 23, 13, 22, 17, 16, 21, 38, 15, 36, 37]) 6 27 ⟨[.agg [(.int .i64, false), (.sl 3, false), (.sl 47, false)], .cell (.int .i64) false], [.cell (.int .i64) false]⟩).den = V_rBalance := by kernel_rfl
theorem s_rBalance (h : SigOk Tb (cfgAt [25, 20, 44, 51, 24, 19, 12, 32, 11, 18, 14, 23, 13, 22, 17, 16, 21, 38, 15, 36, 37])) (hv : V_rBalance) : SigOk Tb (cfgAt [27, 25, 20, 44, 51, 24, 19, 12, 32, 11, 18, 14, 23, 13, 22, 17, 16, 21, 38, 15, 36, 37]) := SigOk.next (l := [25, 20, 44, 51, 24, 19, 12, 32, 11, 18, 14, 23, 13, 22, 17, 16, 21, 38, 15, 36, 37]) h (f := 27) (sg := ⟨[.agg [(.int .i64, false), (.sl 3, false), (.sl 47, false)], .cell (.int .i64) false], [.cell (.int .i64) false]⟩) rfl j_rBalance hv
def V_rTotal : Prop :=
(∀ x0 : Int,
((Rng .i64 x0) →
(∀ s1 : Sl,
(∀ s2 : Sl,
(∀ x3 : Int,
((Rng .u8 x3) →
((p_rTotal x0 s1 s2 x3) →
(∃ (J4 : Int → Int → Prop) (M4 : Int → Int → Nat), J4 0 0 ∧
(∀ x5 : Int,
((Rng .i64 x5) →
(∀ x6 : Int,
((Rng .i64 x6) →
(J4 x5 x6 →
((Small s2) →
(((x6 < (Sl.len s2)) →
((0 : Int) ≤ x6) ∧
(x6 < (Sl.len s2)) ∧
((Rng .u8 (Sl.int s2 x6 2)) →
((((Sl.int s2 x6 2) = x3) →
((0 : Int) ≤ x6) ∧
(x6 < (Sl.len s2)) ∧
((Rng .i64 (Sl.int s2 x6 3)) →
(Rng .i64 (x5 + (Sl.int s2 x6 3))) ∧
(Rng .i64 (x6 + 1)) ∧
(J4 (x5 + (Sl.int s2 x6 3)) (x6 + 1) ∧ M4 (x5 + (Sl.int s2 x6 3)) (x6 + 1) < M4 x5 x6))) ∧
(¬ ((Sl.int s2 x6 2) = x3) →
(Rng .i64 (x6 + 1)) ∧
(J4 x5 (x6 + 1) ∧ M4 x5 (x6 + 1) < M4 x5 x6))))) ∧
(¬ (x6 < (Sl.len s2)) →
(q_rTotal x0 s1 s2 x3 x5) ∧ True))))))))))))))))
theorem j_rTotal : (vc (A := sem Tb) (cfgAt [27, 25, 20, 44, 51, 24, 19, 12, 32, 11, 18, 14, 23, 13, 22, 17, 16, 21, 38, 15, 36, 37]) 6 26 ⟨[.agg [(.int .i64, false), (.sl 3, false), (.sl 47, false)], .cell (.int .u8) false], [.cell (.int .i64) false]⟩).den = V_rTotal := by kernel_rfl
theorem s_rTotal (h : SigOk Tb (cfgAt [27, 25, 20, 44, 51, 24, 19, 12, 32, 11, 18, 14, 23, 13, 22, 17, 16, 21, 38, 15, 36, 37])) (hv : V_rTotal) : SigOk Tb (cfgAt [26, 27, 25, 20, 44, 51, 24, 19, 12, 32, 11, 18, 14, 23, 13, 22, 17, 16, 21, 38, 15, 36, 37]) := SigOk.next (l := [27, 25, 20, 44, 51, 24, 19, 12, 32, 11, 18, 14, 23, 13, 22, 17, 16, 21, 38, 15, 36, 37]) h (f := 26) (sg := ⟨[.agg [(.int .i64, false), (.sl 3, false), (.sl 47, false)], .cell (.int .u8) false], [.cell (.int .i64) false]⟩) rfl j_rTotal hv
def V_rAt : Prop :=
(∀ x0 : Int,
((Rng .i64 x0) →
(∀ s1 : Sl,
(∀ s2 : Sl,
(∀ x3 : Int,
((Rng .i64 x3) →
((p_rAt x0 s1 s2 x3) →
(∃ (J4 : Sl → Int → Prop) (M4 : Sl → Int → Nat), J4 Sl.nil 0 ∧
(∀ s5 : Sl,
(∀ x6 : Int,
((Rng .i64 x6) →
(J4 s5 x6 →
((Small s2) →
(((x6 < (Sl.len s2)) →
((0 : Int) ≤ x6) ∧
(x6 < (Sl.len s2)) ∧
((Rng .i64 (Sl.int s2 x6 0)) →
((((Sl.int s2 x6 0) ≤ x3) →
((0 : Int) ≤ x6) ∧
(x6 < (Sl.len s2)) ∧
((Rng .i64 (Sl.int s2 x6 0)) →
((Rng .i64 (Sl.int s2 x6 1)) →
((Rng .u8 (Sl.int s2 x6 2)) →
((Rng .i64 (Sl.int s2 x6 3)) →
((((Sl.len s5) + (Sl.len (Sl.lit [[(.int (Sl.int s2 x6 0)), (.int (Sl.int s2 x6 1)), (.int (Sl.int s2 x6 2)), (.int (Sl.int s2 x6 3))]]))) * 32) ≤ 140737488355328) ∧
(Rng .i64 (x6 + 1)) ∧
(J4 (Sl.app s5 (Sl.lit [[(.int (Sl.int s2 x6 0)), (.int (Sl.int s2 x6 1)), (.int (Sl.int s2 x6 2)), (.int (Sl.int s2 x6 3))]])) (x6 + 1) ∧ M4 (Sl.app s5 (Sl.lit [[(.int (Sl.int s2 x6 0)), (.int (Sl.int s2 x6 1)), (.int (Sl.int s2 x6 2)), (.int (Sl.int s2 x6 3))]])) (x6 + 1) < M4 s5 x6)))))) ∧
(¬ ((Sl.int s2 x6 0) ≤ x3) →
(Rng .i64 (x6 + 1)) ∧
(J4 s5 (x6 + 1) ∧ M4 s5 (x6 + 1) < M4 s5 x6))))) ∧
(¬ (x6 < (Sl.len s2)) →
(q_rAt x0 s1 s2 x3 x0 s1 s5) ∧ True)))))))))))))))
theorem j_rAt : (vc (A := sem Tb) (cfgAt [26, 27, 25, 20, 44, 51, 24, 19, 12, 32, 11, 18, 14, 23, 13, 22, 17, 16, 21, 38, 15, 36, 37]) 6 28 ⟨[.agg [(.int .i64, false), (.sl 3, false), (.sl 47, false)], .cell (.int .i64) false], [.agg [(.int .i64, false), (.sl 3, false), (.sl 47, false)]]⟩).den = V_rAt := by kernel_rfl
theorem s_rAt (h : SigOk Tb (cfgAt [26, 27, 25, 20, 44, 51, 24, 19, 12, 32, 11, 18, 14, 23, 13, 22, 17, 16, 21, 38, 15, 36, 37])) (hv : V_rAt) : SigOk Tb (cfgAt [28, 26, 27, 25, 20, 44, 51, 24, 19, 12, 32, 11, 18, 14, 23, 13, 22, 17, 16, 21, 38, 15, 36, 37]) := SigOk.next (l := [26, 27, 25, 20, 44, 51, 24, 19, 12, 32, 11, 18, 14, 23, 13, 22, 17, 16, 21, 38, 15, 36, 37]) h (f := 28) (sg := ⟨[.agg [(.int .i64, false), (.sl 3, false), (.sl 47, false)], .cell (.int .i64) false], [.agg [(.int .i64, false), (.sl 3, false), (.sl 47, false)]]⟩) rfl j_rAt hv
def V_Concat : Prop :=
(∀ s0 : Sl,
((p_Concat s0) →
((Small s0) →
(∃ (J1 : Int → Int → Prop) (M1 : Int → Int → Nat), J1 0 0 ∧
(∀ x2 : Int,
((Rng .i64 x2) →
(∀ x3 : Int,
((Rng .i64 x3) →
(J1 x2 x3 →
(((x3 < (Sl.len s0)) →
((0 : Int) ≤ x3) ∧
(x3 < (Sl.len s0)) ∧
((Small (Sl.sub s0 x3 0)) →
(Rng .i64 (x2 + (Sl.len (Sl.sub s0 x3 0)))) ∧
((((x2 + (Sl.len (Sl.sub s0 x3 0))) < 0) → False /- an operation that is not served 0 -/) ∧
(¬ ((x2 + (Sl.len (Sl.sub s0 x3 0))) < 0) →
(Rng .i64 (x3 + 1)) ∧
(J1 (x2 + (Sl.len (Sl.sub s0 x3 0))) (x3 + 1) ∧ M1 (x2 + (Sl.len (Sl.sub s0 x3 0))) (x3 + 1) < M1 x2 x3))))) ∧
(¬ (x3 < (Sl.len s0)) →
(((x2 < 0) → False /- an operation that is not served 0 -/) ∧
(¬ (x2 < 0) →
(Rng .i64 (0 - 0)) ∧
(Rng .i64 (x2 - (0 - 0))) ∧
((((x2 - (0 - 0)) > 0) →
((0 : Int) ≤ 0) ∧
((0 : Int) ≤ 0) ∧
((0 : Int) ≤ 0) ∧
((0 : Int) ≤ (x2 - (0 - 0))) ∧
(((x2 - (0 - 0)) * 32) ≤ 140737488355328) ∧
((0 : Int) ≤ 0) ∧
((0 : Int) ≤ 0) ∧
((0 : Int) ≤ (Sl.len (Sl.rep (x2 - (0 - 0)) [(.int 0), (.int 0), (.int 0), (.int 0)]))) ∧
((Small s0) →
(∃ (J4 : Sl → Int → Prop) (M4 : Sl → Int → Nat), J4 (Sl.part (Sl.rep (x2 - (0 - 0)) [(.int 0), (.int 0), (.int 0), (.int 0)]) 0 0) 0 ∧
(∀ s5 : Sl,
(∀ x6 : Int,
((Rng .i64 x6) →
(J4 s5 x6 →
(((x6 < (Sl.len s0)) →
((0 : Int) ≤ x6) ∧
(x6 < (Sl.len s0)) ∧
((((Sl.len s5) + (Sl.len (Sl.sub s0 x6 0))) * 32) ≤ 140737488355328) ∧
(Rng .i64 (x6 + 1)) ∧
(J4 (Sl.app s5 (Sl.sub s0 x6 0)) (x6 + 1) ∧ M4 (Sl.app s5 (Sl.sub s0 x6 0)) (x6 + 1) < M4 s5 x6)) ∧
(¬ (x6 < (Sl.len s0)) →
(q_Concat s0 s5) ∧ True))))))))) ∧
(¬ ((x2 - (0 - 0)) > 0) →
((Small s0) →
(∃ (J4 : Sl → Int → Prop) (M4 : Sl → Int → Nat), J4 Sl.nil 0 ∧
(∀ s5 : Sl,
(∀ x6 : Int,
((Rng .i64 x6) →
(J4 s5 x6 →
(((x6 < (Sl.len s0)) →
((0 : Int) ≤ x6) ∧
(x6 < (Sl.len s0)) ∧
((((Sl.len s5) + (Sl.len (Sl.sub s0 x6 0))) * 32) ≤ 140737488355328) ∧
(Rng .i64 (x6 + 1)) ∧
(J4 (Sl.app s5 (Sl.sub s0 x6 0)) (x6 + 1) ∧ M4 (Sl.app s5 (Sl.sub s0 x6 0)) (x6 + 1) < M4 s5 x6)) ∧
(¬ (x6 < (Sl.len s0)) →
(q_Concat s0 s5) ∧ True)))))))))))))))))))))))
theorem j_Concat : (vc (A := sem Tb) (cfgAt [28, 26, 27, 25, 20, 44, 51, 24, 19, 12, 32, 11, 18, 14, 23, 13, 22, 17, 16, 21, 38, 15, 36, 37]) 6 47 ⟨[.cell (.sl 23) false], [.cell (.sl 47) true]⟩).den = V_Concat := by kernel_rfl
theorem s_Concat (h : SigOk Tb (cfgAt [28, 26, 27, 25, 20, 44, 51, 24, 19, 12, 32, 11, 18, 14, 23, 13, 22, 17, 16, 21, 38, 15, 36, 37])) (hv : V_Concat) : SigOk Tb (cfgAt [47, 28, 26, 27, 25, 20, 44, 51, 24, 19, 12, 32, 11, 18, 14, 23, 13, 22, 17, 16, 21, 38, 15, 36, 37]) := SigOk.next (l := [28, 26, 27, 25, 20, 44, 51, 24, 19, 12, 32, 11, 18, 14, 23, 13, 22, 17, 16, 21, 38, 15, 36, 37]) h (f := 47) (sg := ⟨[.cell (.sl 23) false], [.cell (.sl 47) true]⟩) rfl j_Concat hv
def V_Post : Prop :=
(∀ x0 : Int,
((Rng .i64 x0) →
(∀ s1 : Sl,
(∀ s2 : Sl,
(∀ s3 : Sl,
((p_Post x0 s1 s2 s3) →
(p_Valid x0 s1 s2) ∧
(∀ b4 : Bool,
((q_Valid x0 s1 s2 (decide (b4 = true))) →
(((¬ (b4 = true)) →
(q_Post x0 s1 s2 s3 0 Sl.nil Sl.nil 2) ∧ True) ∧
(¬ (¬ (b4 = true)) →
((Small s2) →
((((Sl.len s2) > 0) →
(Rng .i64 ((Sl.len s2) - 1)) ∧
((0 : Int) ≤ ((Sl.len s2) - 1)) ∧
(((Sl.len s2) - 1) < (Sl.len s2)) ∧
((Rng .i64 (Sl.int s2 ((Sl.len s2) - 1) 0)) →
(p_follow x0 s1 s2 s3 (Sl.int s2 ((Sl.len s2) - 1) 0)) ∧
(∀ b5 : Bool,
((q_follow x0 s1 s2 s3 (Sl.int s2 ((Sl.len s2) - 1) 0) (decide (b5 = true))) →
(((¬ (b5 = true)) →
(q_Post x0 s1 s2 s3 0 Sl.nil Sl.nil 2) ∧ True) ∧
(¬ (¬ (b5 = true)) →
((Small s2) →
((Small s3) →
(Rng .i64 ((Sl.len s2) + (Sl.len s3))) ∧
(((((Sl.len s2) + (Sl.len s3)) > 4000) →
(q_Post x0 s1 s2 s3 0 Sl.nil Sl.nil 5) ∧ True) ∧
(¬ (((Sl.len s2) + (Sl.len s3)) > 4000) →
(((∀ b6 : Bool,
(((b6 = true) →
(((Sl.len s1) ≤ 0) →
(p_Concat (Sl.lit [[(Sl.d s2)], [(Sl.d s3)]])) ∧
(∀ s7 : Sl,
((q_Concat (Sl.lit [[(Sl.d s2)], [(Sl.d s3)]]) s7) →
(q_Post x0 s1 s2 s3 x0 Sl.nil s7 0) ∧ True)))) ∧
(¬ (b6 = true) →
((((Sl.len (Sl.lit [])) + (Sl.len s1)) * 8) ≤ 140737488355328) ∧
(p_Concat (Sl.lit [[(Sl.d s2)], [(Sl.d s3)]])) ∧
(∀ s7 : Sl,
((q_Concat (Sl.lit [[(Sl.d s2)], [(Sl.d s3)]]) s7) →
(q_Post x0 s1 s2 s3 x0 (Sl.app (Sl.lit []) s1) s7 0) ∧ True)))))) ∧
((∀ b6 : Bool,
(((b6 = true) →
(((Sl.len s1) ≤ 0) →
(p_Concat (Sl.lit [[(Sl.d s2)], [(Sl.d s3)]])) ∧
(∀ s7 : Sl,
((q_Concat (Sl.lit [[(Sl.d s2)], [(Sl.d s3)]]) s7) →
(q_Post x0 s1 s2 s3 x0 Sl.nil s7 0) ∧ True)))) ∧
(¬ (b6 = true) →
((((Sl.len (Sl.lit [])) + (Sl.len s1)) * 8) ≤ 140737488355328) ∧
(p_Concat (Sl.lit [[(Sl.d s2)], [(Sl.d s3)]])) ∧
(∀ s7 : Sl,
((q_Concat (Sl.lit [[(Sl.d s2)], [(Sl.d s3)]]) s7) →
(q_Post x0 s1 s2 s3 x0 (Sl.app (Sl.lit []) s1) s7 0) ∧ True))))))))))))))))) ∧
(¬ ((Sl.len s2) > 0) →
(p_follow x0 s1 s2 s3 0) ∧
(∀ b5 : Bool,
((q_follow x0 s1 s2 s3 0 (decide (b5 = true))) →
(((¬ (b5 = true)) →
(q_Post x0 s1 s2 s3 0 Sl.nil Sl.nil 2) ∧ True) ∧
(¬ (¬ (b5 = true)) →
((Small s2) →
((Small s3) →
(Rng .i64 ((Sl.len s2) + (Sl.len s3))) ∧
(((((Sl.len s2) + (Sl.len s3)) > 4000) →
(q_Post x0 s1 s2 s3 0 Sl.nil Sl.nil 5) ∧ True) ∧
(¬ (((Sl.len s2) + (Sl.len s3)) > 4000) →
(((∀ b6 : Bool,
(((b6 = true) →
(((Sl.len s1) ≤ 0) →
(p_Concat (Sl.lit [[(Sl.d s2)], [(Sl.d s3)]])) ∧
(∀ s7 : Sl,
((q_Concat (Sl.lit [[(Sl.d s2)], [(Sl.d s3)]]) s7) →
(q_Post x0 s1 s2 s3 x0 Sl.nil s7 0) ∧ True)))) ∧
(¬ (b6 = true) →
((((Sl.len (Sl.lit [])) + (Sl.len s1)) * 8) ≤ 140737488355328) ∧
(p_Concat (Sl.lit [[(Sl.d s2)], [(Sl.d s3)]])) ∧
(∀ s7 : Sl,
((q_Concat (Sl.lit [[(Sl.d s2)], [(Sl.d s3)]]) s7) →
(q_Post x0 s1 s2 s3 x0 (Sl.app (Sl.lit []) s1) s7 0) ∧ True)))))) ∧
((∀ b6 : Bool,
(((b6 = true) →
(((Sl.len s1) ≤ 0) →
(p_Concat (Sl.lit [[(Sl.d s2)], [(Sl.d s3)]])) ∧
(∀ s7 : Sl,
((q_Concat (Sl.lit [[(Sl.d s2)], [(Sl.d s3)]]) s7) →
(q_Post x0 s1 s2 s3 x0 Sl.nil s7 0) ∧ True)))) ∧
(¬ (b6 = true) →
((((Sl.len (Sl.lit [])) + (Sl.len s1)) * 8) ≤ 140737488355328) ∧
(p_Concat (Sl.lit [[(Sl.d s2)], [(Sl.d s3)]])) ∧
(∀ s7 : Sl,
((q_Concat (Sl.lit [[(Sl.d s2)], [(Sl.d s3)]]) s7) →
(q_Post x0 s1 s2 s3 x0 (Sl.app (Sl.lit []) s1) s7 0) ∧ True))))))))))))))))))))))))))))
theorem j_Post : (vc (A := sem Tb) (cfgAt [47, 28, 26, 27, 25, 20, 44, 51, 24, 19, 12, 32, 11, 18, 14, 23, 13, 22, 17, 16, 21, 38, 15, 36, 37]) 6 29 ⟨[.agg [(.int .i64, false), (.sl 3, false), (.sl 47, false)], .cell (.sl 47) false], [.agg [(.int .i64, false), (.sl 3, true), (.sl 47, true)], .cell (.int .i64) false]⟩).den = V_Post := by kernel_rfl
theorem s_Post (h : SigOk Tb (cfgAt [47, 28, 26, 27, 25, 20, 44, 51, 24, 19, 12, 32, 11, 18, 14, 23, 13, 22, 17, 16, 21, 38, 15, 36, 37])) (hv : V_Post) : SigOk Tb (cfgAt [29, 47, 28, 26, 27, 25, 20, 44, 51, 24, 19, 12, 32, 11, 18, 14, 23, 13, 22, 17, 16, 21, 38, 15, 36, 37]) := SigOk.next (l := [47, 28, 26, 27, 25, 20, 44, 51, 24, 19, 12, 32, 11, 18, 14, 23, 13, 22, 17, 16, 21, 38, 15, 36, 37]) h (f := 29) (sg := ⟨[.agg [(.int .i64, false), (.sl 3, false), (.sl 47, false)], .cell (.sl 47) false], [.agg [(.int .i64, false), (.sl 3, true), (.sl 47, true)], .cell (.int .i64) false]⟩) rfl j_Post hv
end Go.Sx.L
