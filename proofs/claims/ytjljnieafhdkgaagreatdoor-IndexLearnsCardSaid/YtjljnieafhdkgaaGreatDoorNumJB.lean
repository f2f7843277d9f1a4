/-
  The conditions are what the executor says. Conditions: none; printed by a program of our own.
-/
import Derived.Test.YtjljnieafhdkgaaGreatDoorNumT
import Derived.Test.YtjljnieafhdkgaaGreatDoorNumVB
import Derived.KernelRfl
namespace Go.Sx.N
open Go.Proofs
theorem j_plus : VCA b19 6 110 = V_plus := by kernel_rfl
theorem j_minus : VCA b20 6 111 = V_minus := by kernel_rfl
theorem j_times : VCA b21 6 101 = V_times := by kernel_rfl
theorem j_Clone16 : VCA b22 6 73 = V_Clone16 := by kernel_rfl
theorem j_wValid : VCA b23 6 104 = V_wValid := by kernel_rfl
theorem j_wAllValid : VCA b24 6 97 = V_wAllValid := by kernel_rfl
theorem j_wFromInt : VCA b25 6 66 = V_wFromInt := by kernel_rfl
theorem j_result : VCA b26 6 100 = V_result := by kernel_rfl
theorem j_sum : VCA b27 6 98 = V_sum := by kernel_rfl
theorem j_wAdd : VCA b28 6 80 = V_wAdd := by kernel_rfl
theorem j_wMul : VCA b29 6 81 = V_wMul := by kernel_rfl
theorem j_wDivMod : VCA b30 6 96 = V_wDivMod := by kernel_rfl
theorem j_wGcd : VCA b31 6 95 = V_wGcd := by kernel_rfl
end Go.Sx.N
