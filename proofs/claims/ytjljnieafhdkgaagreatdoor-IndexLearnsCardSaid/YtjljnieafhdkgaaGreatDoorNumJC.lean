/-
  The conditions are what the executor says. Conditions: none; printed by a program of our own.
-/
import Derived.Test.YtjljnieafhdkgaaGreatDoorNumT
import Derived.Test.YtjljnieafhdkgaaGreatDoorNumVC
import Derived.KernelRfl
namespace Go.Sx.N
open Go.Proofs
theorem j_opposite : VCA b32 6 77 = V_opposite := by kernel_rfl
theorem j_fDivisor : VCA b33 6 78 = V_fDivisor := by kernel_rfl
theorem j_fPlus : VCA b34 6 49 = V_fPlus := by kernel_rfl
theorem j_fTimes : VCA b35 6 50 = V_fTimes := by kernel_rfl
theorem j_fDivide : VCA b36 6 79 = V_fDivide := by kernel_rfl
theorem j_lowest : VCA b37 6 48 = V_lowest := by kernel_rfl
theorem j_fValid : VCA b38 6 76 = V_fValid := by kernel_rfl
theorem j_fAllValid : VCA b39 6 47 = V_fAllValid := by kernel_rfl
theorem j_fFromInt : VCA b40 6 34 = V_fFromInt := by kernel_rfl
theorem j_fAdd : VCA b41 6 19 = V_fAdd := by kernel_rfl
theorem j_fMul : VCA b42 6 20 = V_fMul := by kernel_rfl
theorem j_fDiv : VCA b43 6 56 = V_fDiv := by kernel_rfl
end Go.Sx.N
