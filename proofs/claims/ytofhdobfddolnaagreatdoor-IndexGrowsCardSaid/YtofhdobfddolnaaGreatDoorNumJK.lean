/-
 The conditions are what the executor says. Conditions: none; printed by a program of our own.
-/
import Derived.Test.YtofhdobfddolnaaGreatDoorNumT
import Derived.Test.YtofhdobfddolnaaGreatDoorNumVK
import Derived.KernelRfl
namespace Go.Sx.N
open Go.Proofs
theorem j_kSameLimbs : VCA b65 6 99 = V_kSameLimbs := by kernel_rfl
theorem j_kSameWhole : VCA b66 6 54 = V_kSameWhole := by kernel_rfl
theorem j_kSameFrac : VCA b67 6 20 = V_kSameFrac := by kernel_rfl
end Go.Sx.N
