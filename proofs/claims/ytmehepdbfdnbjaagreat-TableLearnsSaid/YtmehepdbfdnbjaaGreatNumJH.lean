/-
 The conditions are what the executor says. Conditions: none; printed by a program of our own.
-/
import Derived.Test.YtmehepdbfdnbjaaGreatNumT
import Derived.Test.YtmehepdbfdnbjaaGreatNumVH
import Derived.KernelRfl
namespace Go.Sx.N
open Go.Proofs
theorem j_tRight : VCA b64 6 33 = V_tRight := by kernel_rfl
theorem j_tBefore : VCA b65 6 54 = V_tBefore := by kernel_rfl
theorem j_rTValid : VCA b66 6 26 = V_rTValid := by kernel_rfl
theorem j_rLearn : VCA b67 6 31 = V_rLearn := by kernel_rfl
theorem j_Few : VCA b68 6 7 = V_Few := by kernel_rfl
theorem j_learns : VCA b69 6 12 = V_learns := by kernel_rfl
end Go.Sx.N
