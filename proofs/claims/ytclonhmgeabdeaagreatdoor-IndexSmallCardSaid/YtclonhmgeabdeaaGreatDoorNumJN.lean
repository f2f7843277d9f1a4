/-
 The conditions are what the executor says. Conditions: none; printed by a program of our own.
-/
import Derived.Test.YtclonhmgeabdeaaGreatDoorNumT
import Derived.Test.YtclonhmgeabdeaaGreatDoorNumVN
import Derived.KernelRfl
namespace Go.Sx.N
open Go.Proofs
theorem j_rOver : VCA b112 6 94 = V_rOver := by kernel_rfl
theorem j_rZero : VCA b113 6 93 = V_rZero := by kernel_rfl
theorem j_rAdd2 : VCA b114 6 47 = V_rAdd2 := by kernel_rfl
theorem j_rMul2 : VCA b115 6 48 = V_rMul2 := by kernel_rfl
theorem j_rDiv2 : VCA b116 6 50 = V_rDiv2 := by kernel_rfl
theorem j_yGrow : VCA b117 6 18 = V_yGrow := by kernel_rfl
theorem j_yRaise : VCA b118 6 19 = V_yRaise := by kernel_rfl
theorem j_yLower : VCA b119 6 20 = V_yLower := by kernel_rfl
theorem j_grows : VCA b120 6 6 = V_grows := by kernel_rfl
end Go.Sx.N
