/-
 The conditions are what the executor says. Conditions: none; printed by a program of our own.
-/
import Derived.Test.YtbgbcaamipknmaaGreatNumT
import Derived.Test.YtbgbcaamipknmaaGreatNumVD
import Derived.KernelRfl
namespace Go.Sx.N
open Go.Proofs
theorem j_rTrim : VCA b25 6 166 = V_rTrim := by kernel_rfl
theorem j_rLess : VCA b26 6 157 = V_rLess := by kernel_rfl
theorem j_rPlus : VCA b27 6 158 = V_rPlus := by kernel_rfl
theorem j_rMinus : VCA b28 6 160 = V_rMinus := by kernel_rfl
theorem j_rHalf : VCA b29 6 159 = V_rHalf := by kernel_rfl
theorem j_rShort : VCA b30 6 156 = V_rShort := by kernel_rfl
theorem j_rDivided : VCA b31 6 145 = V_rDivided := by kernel_rfl
theorem j_rValid1 : VCA b32 6 100 = V_rValid1 := by kernel_rfl
theorem j_rCommon : VCA b33 6 103 = V_rCommon := by kernel_rfl
end Go.Sx.N
