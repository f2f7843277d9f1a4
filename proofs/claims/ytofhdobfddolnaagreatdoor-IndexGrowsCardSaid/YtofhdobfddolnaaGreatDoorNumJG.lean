/-
 The conditions are what the executor says. Conditions: none; printed by a program of our own.
-/
import Derived.Test.YtofhdobfddolnaaGreatDoorNumT
import Derived.Test.YtofhdobfddolnaaGreatDoorNumVG
import Derived.KernelRfl
namespace Go.Sx.N
open Go.Proofs
theorem j_kWhole : VCA b68 6 56 = V_kWhole := by kernel_rfl
theorem j_kFrac : VCA b69 6 23 = V_kFrac := by kernel_rfl
theorem j_kLimbs : VCA b70 6 5 = V_kLimbs := by kernel_rfl
theorem j_cmpI : VCA b71 6 103 = V_cmpI := by kernel_rfl
theorem j_cmpOr : VCA b72 6 102 = V_cmpOr := by kernel_rfl
theorem j_tCompare : VCA b73 6 61 = V_tCompare := by kernel_rfl
theorem j_Right : VCA b74 6 64 = V_Right := by kernel_rfl
theorem j_tValid : VCA b75 6 28 = V_tValid := by kernel_rfl
theorem j_copied : VCA b76 6 71 = V_copied := by kernel_rfl
theorem j_forced : VCA b77 6 69 = V_forced := by kernel_rfl
theorem j_Look : VCA b78 6 33 = V_Look := by kernel_rfl
theorem j_kSameRow : VCA b79 6 95 = V_kSameRow := by kernel_rfl
theorem j_kSameRows : VCA b80 6 93 = V_kSameRows := by kernel_rfl
theorem j_kSameTable : VCA b81 6 49 = V_kSameTable := by kernel_rfl
end Go.Sx.N
