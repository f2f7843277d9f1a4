/-
 The conditions are what the executor says. Conditions: none; printed by a program of our own.
-/
import Derived.Test.YtccbjhfdfbaekaaGreatNumT
import Derived.Test.YtccbjhfdfbaekaaGreatNumVY
import Derived.KernelRfl
namespace Go.Sx.N
open Go.Proofs
theorem XO : aC RF 6 89 = LW := by kernel_rfl
theorem Ve : aC b80 6 168 = Io := by kernel_rfl
theorem acF : aC RG 6 131 = TM := by kernel_rfl
theorem RJ : aC b82 6 88 = FQ := by kernel_rfl
theorem XQ : aC b83 6 90 = LX := by kernel_rfl
theorem afD : aC RN 6 134 = V3 := by kernel_rfl
theorem ahK : aC b85 6 92 = aaG := by kernel_rfl
theorem Vh : aC b86 6 62 = Ip := by kernel_rfl
end Go.Sx.N
