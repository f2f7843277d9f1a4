/-
 The conditions are what the executor says. Conditions: none; printed by a program of our own.
-/
import Derived.Test.YtfhjplagjjjlpaaGreatNumT
import Derived.Test.YtfhjplagjjjlpaaGreatNumVK
import Derived.KernelRfl
namespace Go.Sx.N
open Go.Proofs
theorem j_kSameLimbs : VCA b73 6 63 = V_kSameLimbs := by kernel_rfl
theorem j_kSameWhole : VCA b74 6 32 = V_kSameWhole := by kernel_rfl
theorem j_kSameFrac : VCA b75 6 16 = V_kSameFrac := by kernel_rfl
theorem j_kCopyLimbs : VCA b76 6 71 = V_kCopyLimbs := by kernel_rfl
theorem j_kCopyWhole : VCA b77 6 39 = V_kCopyWhole := by kernel_rfl
theorem j_kCopyFrac : VCA b78 6 23 = V_kCopyFrac := by kernel_rfl
end Go.Sx.N
