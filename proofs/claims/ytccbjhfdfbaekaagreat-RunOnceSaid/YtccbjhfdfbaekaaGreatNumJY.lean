/-
 The conditions are what the executor says. Conditions: none; printed by a program of our own.
-/
import Derived.Test.YtccbjhfdfbaekaaGreatNumT
import Derived.Test.YtccbjhfdfbaekaaGreatNumVY
import Derived.KernelRfl
namespace Go.Sx.N
open Go.Proofs
theorem j_isAmount : VCA b79 6 89 = V_isAmount := by kernel_rfl
theorem j_validRate : VCA b80 6 168 = V_validRate := by kernel_rfl
theorem j_sValid : VCA b81 6 131 = V_sValid := by kernel_rfl
theorem j_validYears : VCA b82 6 88 = V_validYears := by kernel_rfl
theorem j_applying : VCA b83 6 90 = V_applying := by kernel_rfl
theorem j_exact : VCA b84 6 134 = V_exact := by kernel_rfl
theorem j_tDue : VCA b85 6 92 = V_tDue := by kernel_rfl
theorem j_tWithhold : VCA b86 6 62 = V_tWithhold := by kernel_rfl
end Go.Sx.N
