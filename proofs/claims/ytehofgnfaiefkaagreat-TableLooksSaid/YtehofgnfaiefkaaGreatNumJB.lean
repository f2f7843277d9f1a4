/-
  The conditions are what the executor says. Conditions: none; printed by a program of our own.
-/
import Derived.Test.YtehofgnfaiefkaaGreatNumT
import Derived.Test.YtehofgnfaiefkaaGreatNumVB
import Derived.KernelRfl
namespace Go.Sx.N
open Go.Proofs
theorem j_Clone16 : VCA b19 6 63 = V_Clone16 := by kernel_rfl
theorem j_wValid : VCA b20 6 84 = V_wValid := by kernel_rfl
theorem j_wAllValid : VCA b21 6 98 = V_wAllValid := by kernel_rfl
theorem j_wGcd : VCA b22 6 92 = V_wGcd := by kernel_rfl
end Go.Sx.N
