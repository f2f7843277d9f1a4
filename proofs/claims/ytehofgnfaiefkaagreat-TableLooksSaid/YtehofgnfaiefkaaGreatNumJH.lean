/-
  The conditions are what the executor says. Conditions: none; printed by a program of our own.
-/
import Derived.Test.YtehofgnfaiefkaaGreatNumT
import Derived.Test.YtehofgnfaiefkaaGreatNumVH
import Derived.KernelRfl
namespace Go.Sx.N
open Go.Proofs
theorem j_tRight : VCA b60 6 24 = V_tRight := by kernel_rfl
theorem j_tBefore : VCA b61 6 49 = V_tBefore := by kernel_rfl
theorem j_rTValid : VCA b62 6 34 = V_rTValid := by kernel_rfl
theorem j_tForce : VCA b63 6 35 = V_tForce := by kernel_rfl
theorem j_rLook : VCA b64 6 12 = V_rLook := by kernel_rfl
theorem j_rLookTwo : VCA b65 6 14 = V_rLookTwo := by kernel_rfl
theorem j_Few : VCA b66 6 5 = V_Few := by kernel_rfl
theorem j_looks : VCA b67 6 6 = V_looks := by kernel_rfl
end Go.Sx.N
