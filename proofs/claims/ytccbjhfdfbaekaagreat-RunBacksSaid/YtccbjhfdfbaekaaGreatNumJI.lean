/-
 The conditions are what the executor says. Conditions: none; printed by a program of our own.
-/
import Derived.Test.YtccbjhfdfbaekaaGreatNumT
import Derived.Test.YtccbjhfdfbaekaaGreatNumVI
import Derived.KernelRfl
namespace Go.Sx.N
open Go.Proofs
theorem acv : aC mP 6 161 = TA := by kernel_rfl
theorem acy : aC b68 6 127 = TB := by kernel_rfl
theorem ZV : aC b69 6 128 = OZ := by kernel_rfl
theorem ajn : aC pz 6 58 = aez := by kernel_rfl
theorem acA : aC b71 6 32 = TF := by kernel_rfl
end Go.Sx.N
