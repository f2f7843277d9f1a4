/-
  The conditions are what the executor says. Conditions: none; printed by a program of our own.
-/
import Derived.Test.YtehofgnfaiefkaaGreatNumT
import Derived.Test.YtehofgnfaiefkaaGreatNumVK
import Derived.KernelRfl
namespace Go.Sx.N
open Go.Proofs
theorem j_kSameLimbs : VCA b37 6 64 = V_kSameLimbs := by kernel_rfl
theorem j_kSameWhole : VCA b38 6 41 = V_kSameWhole := by kernel_rfl
theorem j_kSameFrac : VCA b39 6 17 = V_kSameFrac := by kernel_rfl
end Go.Sx.N
