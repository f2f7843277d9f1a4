/-
  The conditions are what the executor says. Conditions: none; printed by a program of our own.
-/
import Derived.Test.YtjbknheeiaaioaaNumT
import Derived.Test.YtjbknheeiaaioaaNumVK
import Derived.KernelRfl
namespace Go.Sx.N
open Go.Proofs
theorem j_kSameLimbs : VCA b25 6 50 = V_kSameLimbs := by kernel_rfl
theorem j_kSameWhole : VCA b26 6 33 = V_kSameWhole := by kernel_rfl
theorem j_kSameFrac : VCA b27 6 13 = V_kSameFrac := by kernel_rfl
end Go.Sx.N
