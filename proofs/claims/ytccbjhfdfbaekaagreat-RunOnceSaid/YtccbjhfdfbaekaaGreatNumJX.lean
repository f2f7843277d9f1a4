/-
 The conditions are what the executor says. Conditions: none; printed by a program of our own.
-/
import Derived.Test.YtccbjhfdfbaekaaGreatNumT
import Derived.Test.YtccbjhfdfbaekaaGreatNumVX
import Derived.KernelRfl
namespace Go.Sx.N
open Go.Proofs
theorem j_isShare : VCA b72 6 129 = V_isShare := by kernel_rfl
theorem j_limit : VCA b73 6 130 = V_limit := by kernel_rfl
theorem j_Limit : VCA b74 6 86 = V_Limit := by kernel_rfl
theorem j_outstanding : VCA b75 6 42 = V_outstanding := by kernel_rfl
theorem j_Outstanding : VCA b76 6 13 = V_Outstanding := by kernel_rfl
theorem j_Take : VCA b77 6 59 = V_Take := by kernel_rfl
theorem j_Apply : VCA b78 6 35 = V_Apply := by kernel_rfl
end Go.Sx.N
