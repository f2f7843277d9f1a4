/-
 The conditions are what the executor says. Conditions: none; printed by a program of our own.
-/
import Derived.Test.YtfhjplagjjjlpaaGreatNumT
import Derived.Test.YtfhjplagjjjlpaaGreatNumVB
import Derived.KernelRfl
namespace Go.Sx.N
open Go.Proofs
theorem j_plus : VCA b19 6 107 = V_plus := by kernel_rfl
theorem j_minus : VCA b20 6 108 = V_minus := by kernel_rfl
theorem j_times : VCA b21 6 105 = V_times := by kernel_rfl
theorem j_Clone16 : VCA b22 6 88 = V_Clone16 := by kernel_rfl
theorem j_wValid : VCA b23 6 94 = V_wValid := by kernel_rfl
theorem j_wAllValid : VCA b24 6 78 = V_wAllValid := by kernel_rfl
theorem j_wFromInt : VCA b25 6 57 = V_wFromInt := by kernel_rfl
theorem j_wInt : VCA b26 6 62 = V_wInt := by kernel_rfl
theorem j_result : VCA b27 6 104 = V_result := by kernel_rfl
theorem j_sum : VCA b28 6 110 = V_sum := by kernel_rfl
theorem j_wAdd : VCA b29 6 81 = V_wAdd := by kernel_rfl
theorem j_wMul : VCA b30 6 76 = V_wMul := by kernel_rfl
theorem j_wDivMod : VCA b31 6 77 = V_wDivMod := by kernel_rfl
theorem j_wGcd : VCA b32 6 111 = V_wGcd := by kernel_rfl
theorem j_wCmp : VCA b33 6 54 = V_wCmp := by kernel_rfl
end Go.Sx.N
