/-
 The conditions are what the executor says. Conditions: none; printed by a program of our own.
-/
import Derived.Test.YtclonhmgeabdeaaGreatDoorNumT
import Derived.Test.YtclonhmgeabdeaaGreatDoorNumVK
import Derived.KernelRfl
namespace Go.Sx.N
open Go.Proofs
theorem j_kSameLimbs : VCA b65 6 101 = V_kSameLimbs := by kernel_rfl
theorem j_kSameWhole : VCA b66 6 56 = V_kSameWhole := by kernel_rfl
theorem j_kSameFrac : VCA b67 6 25 = V_kSameFrac := by kernel_rfl
end Go.Sx.N
