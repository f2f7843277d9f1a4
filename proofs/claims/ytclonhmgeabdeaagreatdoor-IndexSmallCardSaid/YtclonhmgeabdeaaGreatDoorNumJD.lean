/-
 The conditions are what the executor says. Conditions: none; printed by a program of our own.
-/
import Derived.Test.YtclonhmgeabdeaaGreatDoorNumT
import Derived.Test.YtclonhmgeabdeaaGreatDoorNumVD
import Derived.KernelRfl
namespace Go.Sx.N
open Go.Proofs
theorem j_rTrim : VCA b44 6 154 = V_rTrim := by kernel_rfl
theorem j_rLess : VCA b45 6 142 = V_rLess := by kernel_rfl
theorem j_rPlus : VCA b46 6 141 = V_rPlus := by kernel_rfl
theorem j_rMinus : VCA b47 6 143 = V_rMinus := by kernel_rfl
theorem j_rTimes : VCA b48 6 144 = V_rTimes := by kernel_rfl
theorem j_rHalf : VCA b49 6 146 = V_rHalf := by kernel_rfl
theorem j_rShort : VCA b50 6 145 = V_rShort := by kernel_rfl
theorem j_rDivided : VCA b51 6 126 = V_rDivided := by kernel_rfl
theorem j_rMake : VCA b52 6 122 = V_rMake := by kernel_rfl
theorem j_rValid1 : VCA b53 6 89 = V_rValid1 := by kernel_rfl
theorem j_rFromInt1 : VCA b54 6 84 = V_rFromInt1 := by kernel_rfl
theorem j_rSum1 : VCA b55 6 123 = V_rSum1 := by kernel_rfl
theorem j_rProduct1 : VCA b56 6 124 = V_rProduct1 := by kernel_rfl
theorem j_rCommon : VCA b57 6 92 = V_rCommon := by kernel_rfl
end Go.Sx.N
