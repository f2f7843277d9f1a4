/-
 The conditions are what the executor says. Conditions: none; printed by a program of our own.
-/
import Derived.Test.YtbgbcaamipknmaaGreatNumT
import Derived.Test.YtbgbcaamipknmaaGreatNumVH
import Derived.KernelRfl
namespace Go.Sx.N
open Go.Proofs
theorem j_tRight : VCA b64 6 28 = V_tRight := by kernel_rfl
theorem j_tBefore : VCA b65 6 41 = V_tBefore := by kernel_rfl
theorem j_rTValid : VCA b66 6 14 = V_rTValid := by kernel_rfl
theorem j_tForce : VCA b67 6 36 = V_tForce := by kernel_rfl
theorem j_rLook : VCA b68 6 20 = V_rLook := by kernel_rfl
theorem j_rLookTwo : VCA b69 6 22 = V_rLookTwo := by kernel_rfl
theorem j_rView : VCA b70 6 12 = V_rView := by kernel_rfl
theorem j_rLearn : VCA b71 6 26 = V_rLearn := by kernel_rfl
theorem j_looks : VCA b72 6 6 = V_looks := by kernel_rfl
theorem j_learns : VCA b73 6 7 = V_learns := by kernel_rfl
end Go.Sx.N
