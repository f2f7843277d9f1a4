/-
 The conditions are what the executor says. Conditions: none; printed by a program of our own.
-/
import Derived.Test.YtccbjhfdfbaekaaGreatNumT
import Derived.Test.YtccbjhfdfbaekaaGreatNumVC
import Derived.KernelRfl
namespace Go.Sx.N
open Go.Proofs
theorem j_opposite : VCA b34 6 195 = V_opposite := by kernel_rfl
theorem j_fDivisor : VCA b35 6 196 = V_fDivisor := by kernel_rfl
theorem j_fPlus : VCA b36 6 175 = V_fPlus := by kernel_rfl
theorem j_fTimes : VCA b37 6 164 = V_fTimes := by kernel_rfl
theorem j_fDivide : VCA b38 6 173 = V_fDivide := by kernel_rfl
theorem j_lowest : VCA b39 6 163 = V_lowest := by kernel_rfl
theorem j_fValid : VCA b40 6 157 = V_fValid := by kernel_rfl
theorem j_fAllValid : VCA b41 6 162 = V_fAllValid := by kernel_rfl
theorem j_fFromInt : VCA b42 6 121 = V_fFromInt := by kernel_rfl
theorem j_fAdd : VCA b43 6 160 = V_fAdd := by kernel_rfl
theorem j_fMul : VCA b44 6 125 = V_fMul := by kernel_rfl
theorem j_fDiv : VCA b45 6 126 = V_fDiv := by kernel_rfl
theorem j_fCmp : VCA b46 6 167 = V_fCmp := by kernel_rfl
theorem j_fInt : VCA b47 6 136 = V_fInt := by kernel_rfl
theorem j_fRound : VCA b48 6 135 = V_fRound := by kernel_rfl
end Go.Sx.N
