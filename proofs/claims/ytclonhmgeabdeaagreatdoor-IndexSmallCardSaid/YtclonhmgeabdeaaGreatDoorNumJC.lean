/-
 The conditions are what the executor says. Conditions: none; printed by a program of our own.
-/
import Derived.Test.YtclonhmgeabdeaaGreatDoorNumT
import Derived.Test.YtclonhmgeabdeaaGreatDoorNumVC
import Derived.KernelRfl
namespace Go.Sx.N
open Go.Proofs
theorem j_opposite : VCA b32 6 115 = V_opposite := by kernel_rfl
theorem j_fDivisor : VCA b33 6 116 = V_fDivisor := by kernel_rfl
theorem j_fPlus : VCA b34 6 77 = V_fPlus := by kernel_rfl
theorem j_fTimes : VCA b35 6 78 = V_fTimes := by kernel_rfl
theorem j_fDivide : VCA b36 6 117 = V_fDivide := by kernel_rfl
theorem j_lowest : VCA b37 6 76 = V_lowest := by kernel_rfl
theorem j_fValid : VCA b38 6 80 = V_fValid := by kernel_rfl
theorem j_fAllValid : VCA b39 6 75 = V_fAllValid := by kernel_rfl
theorem j_fFromInt : VCA b40 6 34 = V_fFromInt := by kernel_rfl
theorem j_fAdd : VCA b41 6 38 = V_fAdd := by kernel_rfl
theorem j_fMul : VCA b42 6 40 = V_fMul := by kernel_rfl
theorem j_fDiv : VCA b43 6 43 = V_fDiv := by kernel_rfl
end Go.Sx.N
