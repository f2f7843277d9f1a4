/-
 The conditions are what the executor says. Conditions: none; printed by a program of our own.
-/
import Derived.Test.YtccbjhfdfbaekaaGreatNumT
import Derived.Test.YtccbjhfdfbaekaaGreatNumVG
import Derived.KernelRfl
namespace Go.Sx.N
open Go.Proofs
theorem j_has : VCA b59 6 68 = V_has := by kernel_rfl
theorem j_follow : VCA b60 6 66 = V_follow := by kernel_rfl
theorem j_Valid : VCA b61 6 41 = V_Valid := by kernel_rfl
theorem j_posted : VCA b62 6 69 = V_posted := by kernel_rfl
theorem j_Open : VCA b63 6 43 = V_Open := by kernel_rfl
theorem j_Concat : VCA b64 6 71 = V_Concat := by kernel_rfl
theorem j_Post : VCA b65 6 45 = V_Post := by kernel_rfl
theorem j_lLearn : VCA b66 6 57 = V_lLearn := by kernel_rfl
end Go.Sx.N
