/-
 The conditions are what the executor says. Conditions: none; printed by a program of our own.
-/
import Derived.Test.YtclonhmgeabdeaaGreatDoorNumT
import Derived.Test.YtclonhmgeabdeaaGreatDoorNumVG
import Derived.KernelRfl
namespace Go.Sx.N
open Go.Proofs
theorem j_kWhole : VCA b68 6 26 = V_kWhole := by kernel_rfl
theorem j_kFrac : VCA b69 6 7 = V_kFrac := by kernel_rfl
theorem j_cmpI : VCA b70 6 107 = V_cmpI := by kernel_rfl
theorem j_cmpOr : VCA b71 6 106 = V_cmpOr := by kernel_rfl
theorem j_tCompare : VCA b72 6 66 = V_tCompare := by kernel_rfl
theorem j_Right : VCA b73 6 69 = V_Right := by kernel_rfl
theorem j_tValid : VCA b74 6 33 = V_tValid := by kernel_rfl
theorem j_copied : VCA b75 6 74 = V_copied := by kernel_rfl
theorem j_forced : VCA b76 6 72 = V_forced := by kernel_rfl
theorem j_Look : VCA b77 6 36 = V_Look := by kernel_rfl
theorem j_kSameRow : VCA b78 6 97 = V_kSameRow := by kernel_rfl
theorem j_kSameRows : VCA b79 6 95 = V_kSameRows := by kernel_rfl
theorem j_kSameTable : VCA b80 6 51 = V_kSameTable := by kernel_rfl
end Go.Sx.N
