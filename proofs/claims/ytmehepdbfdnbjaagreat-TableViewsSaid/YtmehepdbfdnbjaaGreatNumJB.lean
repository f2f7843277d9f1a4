/-
 The conditions are what the executor says. Conditions: none; printed by a program of our own.
-/
import Derived.Test.YtmehepdbfdnbjaaGreatNumT
import Derived.Test.YtmehepdbfdnbjaaGreatNumVB
import Derived.KernelRfl
namespace Go.Sx.N
open Go.Proofs
theorem j_Clone16 : VCA b19 6 72 = V_Clone16 := by kernel_rfl
theorem j_wValid : VCA b20 6 146 = V_wValid := by kernel_rfl
theorem j_wAllValid : VCA b21 6 167 = V_wAllValid := by kernel_rfl
theorem j_wGcd : VCA b22 6 160 = V_wGcd := by kernel_rfl
end Go.Sx.N
