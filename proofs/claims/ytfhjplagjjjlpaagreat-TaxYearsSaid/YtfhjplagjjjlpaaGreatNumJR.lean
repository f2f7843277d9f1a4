/-
 The conditions are what the executor says. Conditions: none; printed by a program of our own.
-/
import Derived.Test.YtfhjplagjjjlpaaGreatNumT
import Derived.Test.YtfhjplagjjjlpaaGreatNumVR
import Derived.KernelRfl
namespace Go.Sx.N
open Go.Proofs
theorem j_xValid : VCA b90 6 21 = V_xValid := by kernel_rfl
theorem j_xScale : VCA b91 6 7 = V_xScale := by kernel_rfl
end Go.Sx.N
