/-
 The conditions are what the executor says. Conditions: none; printed by a program of our own.
-/
import Derived.Test.YtfhjplagjjjlpaaGreatNumT
import Derived.Test.YtfhjplagjjjlpaaGreatNumVL
import Derived.KernelRfl
namespace Go.Sx.N
open Go.Proofs
theorem j_fits : VCA b92 6 10 = V_fits := by kernel_rfl
theorem j_example : VCA b93 6 12 = V_example := by kernel_rfl
theorem j_awake : VCA b94 6 5 = V_awake := by kernel_rfl
theorem j_given : VCA b95 6 11 = V_given := by kernel_rfl
theorem j_same : VCA b96 6 8 = V_same := by kernel_rfl
theorem j_scales : VCA b97 6 4 = V_scales := by kernel_rfl
end Go.Sx.N
