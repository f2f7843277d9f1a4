/-
 The conditions are what the executor says. Conditions: none; printed by a program of our own.
-/
import Derived.Test.YtccbjhfdfbaekaaGreatNumT
import Derived.Test.YtccbjhfdfbaekaaGreatNumVZ
import Derived.KernelRfl
namespace Go.Sx.N
open Go.Proofs
theorem j_zAmount : VCA b87 6 55 = V_zAmount := by kernel_rfl
theorem j_zTax : VCA b88 6 56 = V_zTax := by kernel_rfl
theorem j_zValid : VCA b89 6 25 = V_zValid := by kernel_rfl
theorem j_zUpTo : VCA b90 6 27 = V_zUpTo := by kernel_rfl
theorem j_Pay : VCA b91 6 8 = V_Pay := by kernel_rfl
theorem j_Paid : VCA b92 6 12 = V_Paid := by kernel_rfl
theorem j_zRev : VCA b93 6 46 = V_zRev := by kernel_rfl
theorem j_Return : VCA b94 6 17 = V_Return := by kernel_rfl
theorem j_vPart : VCA b95 6 11 = V_vPart := by kernel_rfl
theorem j_vEntries : VCA b96 6 9 = V_vEntries := by kernel_rfl
theorem j_vYearly : VCA b97 6 21 = V_vYearly := by kernel_rfl
theorem j_vPlain : VCA b98 6 10 = V_vPlain := by kernel_rfl
theorem j_vAwake : VCA b99 6 14 = V_vAwake := by kernel_rfl
theorem j_vShort : VCA b100 6 44 = V_vShort := by kernel_rfl
theorem j_vFew : VCA b101 6 15 = V_vFew := by kernel_rfl
end Go.Sx.N
