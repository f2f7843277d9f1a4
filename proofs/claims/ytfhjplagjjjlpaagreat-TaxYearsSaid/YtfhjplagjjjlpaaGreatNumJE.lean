/-
 The conditions are what the executor says. Conditions: none; printed by a program of our own.
-/
import Derived.Test.YtfhjplagjjjlpaaGreatNumT
import Derived.Test.YtfhjplagjjjlpaaGreatNumVE
import Derived.KernelRfl
namespace Go.Sx.N
open Go.Proofs
theorem j_rOne : VCA b65 6 67 = V_rOne := by kernel_rfl
theorem j_rFits : VCA b66 6 66 = V_rFits := by kernel_rfl
theorem j_rLowest : VCA b67 6 40 = V_rLowest := by kernel_rfl
theorem j_rValid2 : VCA b68 6 36 = V_rValid2 := by kernel_rfl
theorem j_rFromInt2 : VCA b69 6 17 = V_rFromInt2 := by kernel_rfl
theorem j_rQuick : VCA b70 6 24 = V_rQuick := by kernel_rfl
theorem j_rOrder2 : VCA b71 6 69 = V_rOrder2 := by kernel_rfl
theorem j_rCmp2 : VCA b72 6 37 = V_rCmp2 := by kernel_rfl
end Go.Sx.N
