/-
 The conditions are what the executor says. Conditions: none; printed by a program of our own.
-/
import Derived.Test.YtbgbcaamipknmaaGreatNumT
import Derived.Test.YtbgbcaamipknmaaGreatNumVB
import Derived.KernelRfl
namespace Go.Sx.N
open Go.Proofs
theorem j_Clone16 : VCA b19 6 65 = V_Clone16 := by kernel_rfl
theorem j_wValid : VCA b20 6 141 = V_wValid := by kernel_rfl
theorem j_wAllValid : VCA b21 6 162 = V_wAllValid := by kernel_rfl
theorem j_wGcd : VCA b22 6 155 = V_wGcd := by kernel_rfl
end Go.Sx.N
