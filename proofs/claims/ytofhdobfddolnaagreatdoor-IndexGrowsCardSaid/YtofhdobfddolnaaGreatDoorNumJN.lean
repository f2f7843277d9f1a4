/-
 The conditions are what the executor says. Conditions: none; printed by a program of our own.
-/
import Derived.Test.YtofhdobfddolnaaGreatDoorNumT
import Derived.Test.YtofhdobfddolnaaGreatDoorNumVN
import Derived.KernelRfl
namespace Go.Sx.N
open Go.Proofs
theorem j_rOver : VCA b113 6 92 = V_rOver := by kernel_rfl
theorem j_rZero : VCA b114 6 91 = V_rZero := by kernel_rfl
theorem j_rAdd2 : VCA b115 6 45 = V_rAdd2 := by kernel_rfl
theorem j_rMul2 : VCA b116 6 46 = V_rMul2 := by kernel_rfl
theorem j_rDiv2 : VCA b117 6 48 = V_rDiv2 := by kernel_rfl
theorem j_yGrow : VCA b118 6 13 = V_yGrow := by kernel_rfl
theorem j_yRaise : VCA b119 6 14 = V_yRaise := by kernel_rfl
theorem j_yLower : VCA b120 6 15 = V_yLower := by kernel_rfl
theorem j_grows : VCA b121 6 6 = V_grows := by kernel_rfl
end Go.Sx.N
