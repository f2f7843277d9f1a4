/-
  The conditions are what the executor says. Conditions: none; printed by a program of our own.
-/
import Derived.Test.YtjljnieafhdkgaaGreatDoorNumT
import Derived.Test.YtjljnieafhdkgaaGreatDoorNumVG
import Derived.KernelRfl
namespace Go.Sx.N
open Go.Proofs
theorem j_kWhole : VCA b48 6 54 = V_kWhole := by kernel_rfl
theorem j_kFrac : VCA b49 6 25 = V_kFrac := by kernel_rfl
theorem j_kLimbs : VCA b50 6 18 = V_kLimbs := by kernel_rfl
theorem j_cmpI : VCA b51 6 87 = V_cmpI := by kernel_rfl
theorem j_cmpOr : VCA b52 6 86 = V_cmpOr := by kernel_rfl
theorem j_tCompare : VCA b53 6 59 = V_tCompare := by kernel_rfl
theorem j_Right : VCA b54 6 57 = V_Right := by kernel_rfl
theorem j_tValid : VCA b55 6 32 = V_tValid := by kernel_rfl
theorem j_copied : VCA b56 6 46 = V_copied := by kernel_rfl
theorem j_forced : VCA b57 6 44 = V_forced := by kernel_rfl
theorem j_Look : VCA b58 6 17 = V_Look := by kernel_rfl
theorem j_Learn : VCA b59 6 29 = V_Learn := by kernel_rfl
end Go.Sx.N
