/-
 The conditions are what the executor says. Conditions: none; printed by a program of our own.
-/
import Derived.Test.YtccbjhfdfbaekaaGreatNumT
import Derived.Test.YtccbjhfdfbaekaaGreatNumVH
import Derived.KernelRfl
namespace Go.Sx.N
open Go.Proofs
theorem j_kWhole : VCA b49 6 63 = V_kWhole := by kernel_rfl
theorem j_kFrac : VCA b50 6 38 = V_kFrac := by kernel_rfl
theorem j_cmpI : VCA b51 6 155 = V_cmpI := by kernel_rfl
theorem j_cmpOr : VCA b52 6 154 = V_cmpOr := by kernel_rfl
theorem j_tCompare : VCA b53 6 117 = V_tCompare := by kernel_rfl
theorem j_Right : VCA b54 6 120 = V_Right := by kernel_rfl
theorem j_tValid : VCA b55 6 82 = V_tValid := by kernel_rfl
theorem j_copied : VCA b56 6 221 = V_copied := by kernel_rfl
theorem j_forced : VCA b57 6 219 = V_forced := by kernel_rfl
theorem j_Look : VCA b58 6 192 = V_Look := by kernel_rfl
end Go.Sx.N
