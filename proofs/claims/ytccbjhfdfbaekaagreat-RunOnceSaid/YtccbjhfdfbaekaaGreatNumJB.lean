/-
 The conditions are what the executor says. Conditions: none; printed by a program of our own.
-/
import Derived.Test.YtccbjhfdfbaekaaGreatNumT
import Derived.Test.YtccbjhfdfbaekaaGreatNumVB
import Derived.KernelRfl
namespace Go.Sx.N
open Go.Proofs
theorem j_plus : VCA b19 6 227 = V_plus := by kernel_rfl
theorem j_minus : VCA b20 6 228 = V_minus := by kernel_rfl
theorem j_times : VCA b21 6 225 = V_times := by kernel_rfl
theorem j_Clone16 : VCA b22 6 191 = V_Clone16 := by kernel_rfl
theorem j_wValid : VCA b23 6 212 = V_wValid := by kernel_rfl
theorem j_wAllValid : VCA b24 6 201 = V_wAllValid := by kernel_rfl
theorem j_wFromInt : VCA b25 6 158 = V_wFromInt := by kernel_rfl
theorem j_wInt : VCA b26 6 178 = V_wInt := by kernel_rfl
theorem j_result : VCA b27 6 224 = V_result := by kernel_rfl
theorem j_sum : VCA b28 6 230 = V_sum := by kernel_rfl
theorem j_wAdd : VCA b29 6 204 = V_wAdd := by kernel_rfl
theorem j_wMul : VCA b30 6 197 = V_wMul := by kernel_rfl
theorem j_wDivMod : VCA b31 6 200 = V_wDivMod := by kernel_rfl
theorem j_wGcd : VCA b32 6 223 = V_wGcd := by kernel_rfl
theorem j_wCmp : VCA b33 6 174 = V_wCmp := by kernel_rfl
end Go.Sx.N
