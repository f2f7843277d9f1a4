/-
 The conditions are what the executor says. Conditions: none; printed by a program of our own.
-/
import Derived.Test.YtclonhmgeabdeaaGreatDoorNumT
import Derived.Test.YtclonhmgeabdeaaGreatDoorNumVM
import Derived.KernelRfl
namespace Go.Sx.N
open Go.Proofs
theorem j_tRight : VCA b104 6 82 = V_tRight := by kernel_rfl
theorem j_tBefore : VCA b105 6 83 = V_tBefore := by kernel_rfl
theorem j_rTValid : VCA b106 6 44 = V_rTValid := by kernel_rfl
theorem j_tForce : VCA b107 6 85 = V_tForce := by kernel_rfl
theorem j_rLook : VCA b108 6 46 = V_rLook := by kernel_rfl
end Go.Sx.N
