/-
 The conditions are what the executor says. Conditions: none; printed by a program of our own.
-/
import Derived.Test.YtbgbcaamipknmaaGreatNumT
import Derived.Test.YtbgbcaamipknmaaGreatNumVK
import Derived.KernelRfl
namespace Go.Sx.N
open Go.Proofs
theorem j_kSameLimbs : VCA b37 6 95 = V_kSameLimbs := by kernel_rfl
theorem j_kSameWhole : VCA b38 6 52 = V_kSameWhole := by kernel_rfl
theorem j_kSameFrac : VCA b39 6 23 = V_kSameFrac := by kernel_rfl
end Go.Sx.N
