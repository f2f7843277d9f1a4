/-
  The conditions are what the executor says. Conditions: none; printed by a program of our own.
-/
import Derived.Test.YtehofgnfaiefkaaGreatNumT
import Derived.Test.YtehofgnfaiefkaaGreatNumVD
import Derived.KernelRfl
namespace Go.Sx.N
open Go.Proofs
theorem j_rTrim : VCA b25 6 102 = V_rTrim := by kernel_rfl
theorem j_rLess : VCA b26 6 94 = V_rLess := by kernel_rfl
theorem j_rPlus : VCA b27 6 95 = V_rPlus := by kernel_rfl
theorem j_rMinus : VCA b28 6 97 = V_rMinus := by kernel_rfl
theorem j_rHalf : VCA b29 6 96 = V_rHalf := by kernel_rfl
theorem j_rShort : VCA b30 6 93 = V_rShort := by kernel_rfl
theorem j_rDivided : VCA b31 6 88 = V_rDivided := by kernel_rfl
theorem j_rValid1 : VCA b32 6 72 = V_rValid1 := by kernel_rfl
theorem j_rCommon : VCA b33 6 75 = V_rCommon := by kernel_rfl
end Go.Sx.N
