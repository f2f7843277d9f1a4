/-
 The conditions are what the executor says. Conditions: none; printed by a program of our own.
-/
import Derived.Test.YtfhjplagjjjlpaaGreatNumT
import Derived.Test.YtfhjplagjjjlpaaGreatNumVC
import Derived.KernelRfl
namespace Go.Sx.N
open Go.Proofs
theorem j_opposite : VCA b34 6 89 = V_opposite := by kernel_rfl
theorem j_fDivisor : VCA b35 6 90 = V_fDivisor := by kernel_rfl
theorem j_fPlus : VCA b36 6 55 = V_fPlus := by kernel_rfl
theorem j_fTimes : VCA b37 6 52 = V_fTimes := by kernel_rfl
theorem j_fDivide : VCA b38 6 53 = V_fDivide := by kernel_rfl
theorem j_lowest : VCA b39 6 58 = V_lowest := by kernel_rfl
theorem j_fValid : VCA b40 6 60 = V_fValid := by kernel_rfl
theorem j_fAllValid : VCA b41 6 49 = V_fAllValid := by kernel_rfl
theorem j_fFromInt : VCA b42 6 29 = V_fFromInt := by kernel_rfl
theorem j_fAdd : VCA b43 6 47 = V_fAdd := by kernel_rfl
theorem j_fMul : VCA b44 6 46 = V_fMul := by kernel_rfl
theorem j_fDiv : VCA b45 6 48 = V_fDiv := by kernel_rfl
theorem j_fCmp : VCA b46 6 44 = V_fCmp := by kernel_rfl
theorem j_fInt : VCA b47 6 30 = V_fInt := by kernel_rfl
theorem j_fRound : VCA b48 6 28 = V_fRound := by kernel_rfl
end Go.Sx.N
