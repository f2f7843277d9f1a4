/-
 The conditions are what the executor says. Conditions: none; printed by a program of our own.
-/
import Derived.Test.YtccbjhfdfbaekaaGreatNumT
import Derived.Test.YtccbjhfdfbaekaaGreatNumVI
import Derived.KernelRfl
namespace Go.Sx.N
open Go.Proofs
theorem j_aShort : VCA b67 6 161 = V_aShort := by kernel_rfl
theorem j_aFirst : VCA b68 6 127 = V_aFirst := by kernel_rfl
theorem j_aAmount : VCA b69 6 128 = V_aAmount := by kernel_rfl
theorem j_Owe : VCA b70 6 58 = V_Owe := by kernel_rfl
theorem j_Settle : VCA b71 6 32 = V_Settle := by kernel_rfl
end Go.Sx.N
