/-
 The conditions are what the executor says. Conditions: none; printed by a program of our own.
-/
import Derived.Test.YtbgbcaamipknmaaGreatNumT
import Derived.Test.YtbgbcaamipknmaaGreatNumVC
import Derived.KernelRfl
namespace Go.Sx.N
open Go.Proofs
theorem j_fDivisor : VCA b23 6 144 = V_fDivisor := by kernel_rfl
theorem j_fValid : VCA b24 6 57 = V_fValid := by kernel_rfl
end Go.Sx.N
