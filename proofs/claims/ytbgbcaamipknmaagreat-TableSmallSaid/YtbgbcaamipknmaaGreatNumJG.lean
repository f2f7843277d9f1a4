/-
 The conditions are what the executor says. Conditions: none; printed by a program of our own.
-/
import Derived.Test.YtbgbcaamipknmaaGreatNumT
import Derived.Test.YtbgbcaamipknmaaGreatNumVG
import Derived.KernelRfl
namespace Go.Sx.N
open Go.Proofs
theorem j_kWhole : VCA b40 6 32 = V_kWhole := by kernel_rfl
theorem j_kFrac : VCA b41 6 9 = V_kFrac := by kernel_rfl
theorem j_cmpI : VCA b42 6 67 = V_cmpI := by kernel_rfl
theorem j_cmpOr : VCA b43 6 66 = V_cmpOr := by kernel_rfl
theorem j_tCompare : VCA b44 6 38 = V_tCompare := by kernel_rfl
theorem j_Right : VCA b45 6 27 = V_Right := by kernel_rfl
theorem j_tValid : VCA b46 6 13 = V_tValid := by kernel_rfl
theorem j_copied : VCA b47 6 35 = V_copied := by kernel_rfl
theorem j_forced : VCA b48 6 34 = V_forced := by kernel_rfl
theorem j_Look : VCA b49 6 19 = V_Look := by kernel_rfl
theorem j_LookTwo : VCA b50 6 21 = V_LookTwo := by kernel_rfl
theorem j_View : VCA b51 6 11 = V_View := by kernel_rfl
theorem j_Learn : VCA b52 6 25 = V_Learn := by kernel_rfl
theorem j_kSameRow : VCA b53 6 59 = V_kSameRow := by kernel_rfl
theorem j_kSameRows : VCA b54 6 44 = V_kSameRows := by kernel_rfl
theorem j_kSameTable : VCA b55 6 17 = V_kSameTable := by kernel_rfl
theorem j_tRow : VCA b56 6 4 = V_tRow := by kernel_rfl
theorem j_awake : VCA b57 6 8 = V_awake := by kernel_rfl
end Go.Sx.N
