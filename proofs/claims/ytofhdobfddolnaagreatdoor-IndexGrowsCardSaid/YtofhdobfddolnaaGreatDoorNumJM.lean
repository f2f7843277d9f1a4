/-
 The conditions are what the executor says. Conditions: none; printed by a program of our own.
-/
import Derived.Test.YtofhdobfddolnaaGreatDoorNumT
import Derived.Test.YtofhdobfddolnaaGreatDoorNumVM
import Derived.KernelRfl
namespace Go.Sx.N
open Go.Proofs
theorem j_tRight : VCA b104 6 80 = V_tRight := by kernel_rfl
theorem j_tBefore : VCA b105 6 81 = V_tBefore := by kernel_rfl
theorem j_rTValid : VCA b106 6 42 = V_rTValid := by kernel_rfl
theorem j_tForce : VCA b107 6 83 = V_tForce := by kernel_rfl
theorem j_rLook : VCA b108 6 44 = V_rLook := by kernel_rfl
theorem j_Few : VCA b109 6 4 = V_Few := by kernel_rfl
end Go.Sx.N
