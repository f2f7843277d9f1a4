/-
 The conditions are what the executor says. Conditions: none; printed by a program of our own.
-/
import Derived.Test.YtclonhmgeabdeaaGreatDoorNumT
import Derived.Test.YtclonhmgeabdeaaGreatDoorNumVB
import Derived.KernelRfl
namespace Go.Sx.N
open Go.Proofs
theorem j_plus : VCA b19 6 150 = V_plus := by kernel_rfl
theorem j_minus : VCA b20 6 151 = V_minus := by kernel_rfl
theorem j_times : VCA b21 6 137 = V_times := by kernel_rfl
theorem j_Clone16 : VCA b22 6 109 = V_Clone16 := by kernel_rfl
theorem j_wValid : VCA b23 6 138 = V_wValid := by kernel_rfl
theorem j_wAllValid : VCA b24 6 133 = V_wAllValid := by kernel_rfl
theorem j_wFromInt : VCA b25 6 70 = V_wFromInt := by kernel_rfl
theorem j_result : VCA b26 6 136 = V_result := by kernel_rfl
theorem j_sum : VCA b27 6 134 = V_sum := by kernel_rfl
theorem j_wAdd : VCA b28 6 118 = V_wAdd := by kernel_rfl
theorem j_wMul : VCA b29 6 119 = V_wMul := by kernel_rfl
theorem j_wDivMod : VCA b30 6 132 = V_wDivMod := by kernel_rfl
theorem j_wGcd : VCA b31 6 131 = V_wGcd := by kernel_rfl
end Go.Sx.N
