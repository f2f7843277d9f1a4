/-
 The conditions are what the executor says. Conditions: none; printed by a program of our own.
-/
import Derived.Test.YtmehepdbfdnbjaaGreatNumT
import Derived.Test.YtmehepdbfdnbjaaGreatNumVH
import Derived.KernelRfl
namespace Go.Sx.N
open Go.Proofs
theorem j_tRight : VCA b61 6 33 = V_tRight := by kernel_rfl
theorem j_tBefore : VCA b62 6 54 = V_tBefore := by kernel_rfl
theorem j_rTValid : VCA b63 6 26 = V_rTValid := by kernel_rfl
theorem j_tForce : VCA b64 6 42 = V_tForce := by kernel_rfl
theorem j_rView : VCA b65 6 24 = V_rView := by kernel_rfl
theorem j_Few : VCA b66 6 7 = V_Few := by kernel_rfl
end Go.Sx.N
