/-
  The conditions are what the executor says. Conditions: none; printed by a program of our own.
-/
import Derived.Test.YtjbknheeiaaioaaNumT
import Derived.Test.YtjbknheeiaaioaaNumVG
import Derived.KernelRfl
namespace Go.Sx.N
open Go.Proofs
theorem j_kWhole : VCA b28 6 43 = V_kWhole := by kernel_rfl
theorem j_kFrac : VCA b29 6 22 = V_kFrac := by kernel_rfl
theorem j_kLimbs : VCA b30 6 14 = V_kLimbs := by kernel_rfl
theorem j_cmpI : VCA b31 6 52 = V_cmpI := by kernel_rfl
theorem j_cmpOr : VCA b32 6 51 = V_cmpOr := by kernel_rfl
theorem j_tCompare : VCA b33 6 35 = V_tCompare := by kernel_rfl
theorem j_Right : VCA b34 6 23 = V_Right := by kernel_rfl
theorem j_tValid : VCA b35 6 16 = V_tValid := by kernel_rfl
theorem j_copied : VCA b36 6 29 = V_copied := by kernel_rfl
theorem j_forced : VCA b37 6 27 = V_forced := by kernel_rfl
theorem j_View : VCA b38 6 15 = V_View := by kernel_rfl
theorem j_Look : VCA b39 6 10 = V_Look := by kernel_rfl
theorem j_LookTwo : VCA b40 6 11 = V_LookTwo := by kernel_rfl
theorem j_Learn : VCA b41 6 21 = V_Learn := by kernel_rfl
end Go.Sx.N
