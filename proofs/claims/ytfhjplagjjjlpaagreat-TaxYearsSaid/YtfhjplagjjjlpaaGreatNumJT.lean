/-
 The conditions are what the executor says. Conditions: none; printed by a program of our own.
-/
import Derived.Test.YtfhjplagjjjlpaaGreatNumT
import Derived.Test.YtfhjplagjjjlpaaGreatNumVT
import Derived.KernelRfl
namespace Go.Sx.N
open Go.Proofs
theorem j_isAmount : VCA b79 6 26 = V_isAmount := by kernel_rfl
theorem j_validRate : VCA b80 6 41 = V_validRate := by kernel_rfl
theorem j_tValid : VCA b81 6 25 = V_tValid := by kernel_rfl
theorem j_validYears : VCA b82 6 18 = V_validYears := by kernel_rfl
theorem j_applying : VCA b83 6 19 = V_applying := by kernel_rfl
theorem j_exact : VCA b84 6 27 = V_exact := by kernel_rfl
theorem j_tTax : VCA b85 6 13 = V_tTax := by kernel_rfl
theorem j_tDue : VCA b86 6 14 = V_tDue := by kernel_rfl
theorem j_ownFrac : VCA b87 6 20 = V_ownFrac := by kernel_rfl
theorem j_tScale : VCA b88 6 6 = V_tScale := by kernel_rfl
theorem j_tWithhold : VCA b89 6 15 = V_tWithhold := by kernel_rfl
end Go.Sx.N
