/-
 The conditions are what the executor says. Conditions: none; printed by a program of our own.
-/
import Derived.Test.YtfhjplagjjjlpaaGreatNumT
import Derived.Test.YtfhjplagjjjlpaaGreatNumVD
import Derived.KernelRfl
namespace Go.Sx.N
open Go.Proofs
theorem j_rTrim : VCA b49 6 116 = V_rTrim := by kernel_rfl
theorem j_rLess : VCA b50 6 99 = V_rLess := by kernel_rfl
theorem j_rPlus : VCA b51 6 100 = V_rPlus := by kernel_rfl
theorem j_rMinus : VCA b52 6 102 = V_rMinus := by kernel_rfl
theorem j_rTimes : VCA b53 6 115 = V_rTimes := by kernel_rfl
theorem j_rHalf : VCA b54 6 101 = V_rHalf := by kernel_rfl
theorem j_rShort : VCA b55 6 98 = V_rShort := by kernel_rfl
theorem j_rDivided : VCA b56 6 72 = V_rDivided := by kernel_rfl
theorem j_rMake : VCA b57 6 64 = V_rMake := by kernel_rfl
theorem j_rValid1 : VCA b58 6 65 = V_rValid1 := by kernel_rfl
theorem j_rFromInt1 : VCA b59 6 33 = V_rFromInt1 := by kernel_rfl
theorem j_rNeg1 : VCA b60 6 114 = V_rNeg1 := by kernel_rfl
theorem j_rSum1 : VCA b61 6 113 = V_rSum1 := by kernel_rfl
theorem j_rProduct1 : VCA b62 6 97 = V_rProduct1 := by kernel_rfl
theorem j_rCommon : VCA b63 6 68 = V_rCommon := by kernel_rfl
theorem j_rOrder1 : VCA b64 6 96 = V_rOrder1 := by kernel_rfl
end Go.Sx.N
