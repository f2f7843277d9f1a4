/-
 The conditions are what the executor says. Conditions: none; printed by a program of our own.
-/
import Derived.Test.YtmehepdbfdnbjaaGreatNumT
import Derived.Test.YtmehepdbfdnbjaaGreatNumVG
import Derived.KernelRfl
namespace Go.Sx.N
open Go.Proofs
theorem j_kWhole : VCA b40 6 67 = V_kWhole := by kernel_rfl
theorem j_kFrac : VCA b41 6 36 = V_kFrac := by kernel_rfl
theorem j_kLimbs : VCA b42 6 11 = V_kLimbs := by kernel_rfl
theorem j_cmpI : VCA b43 6 75 = V_cmpI := by kernel_rfl
theorem j_cmpOr : VCA b44 6 74 = V_cmpOr := by kernel_rfl
theorem j_tCompare : VCA b45 6 51 = V_tCompare := by kernel_rfl
theorem j_Right : VCA b46 6 32 = V_Right := by kernel_rfl
theorem j_tValid : VCA b47 6 25 = V_tValid := by kernel_rfl
theorem j_copied : VCA b48 6 41 = V_copied := by kernel_rfl
theorem j_forced : VCA b49 6 39 = V_forced := by kernel_rfl
theorem j_Look : VCA b50 6 15 = V_Look := by kernel_rfl
theorem j_LookTwo : VCA b51 6 17 = V_LookTwo := by kernel_rfl
theorem j_View : VCA b52 6 23 = V_View := by kernel_rfl
theorem j_kSameRow : VCA b53 6 64 = V_kSameRow := by kernel_rfl
theorem j_kSameRows : VCA b54 6 55 = V_kSameRows := by kernel_rfl
theorem j_kSameTable : VCA b55 6 27 = V_kSameTable := by kernel_rfl
theorem j_tRow : VCA b56 6 13 = V_tRow := by kernel_rfl
theorem j_awake : VCA b57 6 9 = V_awake := by kernel_rfl
end Go.Sx.N
