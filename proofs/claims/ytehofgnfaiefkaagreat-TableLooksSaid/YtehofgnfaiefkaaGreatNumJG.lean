/-
  The conditions are what the executor says. Conditions: none; printed by a program of our own.
-/
import Derived.Test.YtehofgnfaiefkaaGreatNumT
import Derived.Test.YtehofgnfaiefkaaGreatNumVG
import Derived.KernelRfl
namespace Go.Sx.N
open Go.Proofs
theorem j_kWhole : VCA b40 6 65 = V_kWhole := by kernel_rfl
theorem j_kFrac : VCA b41 6 42 = V_kFrac := by kernel_rfl
theorem j_kLimbs : VCA b42 6 8 = V_kLimbs := by kernel_rfl
theorem j_cmpI : VCA b43 6 68 = V_cmpI := by kernel_rfl
theorem j_cmpOr : VCA b44 6 67 = V_cmpOr := by kernel_rfl
theorem j_tCompare : VCA b45 6 46 = V_tCompare := by kernel_rfl
theorem j_Right : VCA b46 6 23 = V_Right := by kernel_rfl
theorem j_tValid : VCA b47 6 29 = V_tValid := by kernel_rfl
theorem j_copied : VCA b48 6 33 = V_copied := by kernel_rfl
theorem j_forced : VCA b49 6 31 = V_forced := by kernel_rfl
theorem j_Look : VCA b50 6 11 = V_Look := by kernel_rfl
theorem j_LookTwo : VCA b51 6 13 = V_LookTwo := by kernel_rfl
theorem j_kSameRow : VCA b52 6 52 = V_kSameRow := by kernel_rfl
theorem j_kSameRows : VCA b53 6 55 = V_kSameRows := by kernel_rfl
theorem j_kSameTable : VCA b54 6 27 = V_kSameTable := by kernel_rfl
theorem j_tRow : VCA b55 6 18 = V_tRow := by kernel_rfl
theorem j_awake : VCA b56 6 7 = V_awake := by kernel_rfl
end Go.Sx.N
