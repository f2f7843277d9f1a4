/-
 The conditions are what the executor says. Conditions: none; printed by a program of our own.
-/
import Derived.Test.YtccbjhfdfbaekaaGreatNumT
import Derived.Test.YtccbjhfdfbaekaaGreatNumVH
import Derived.KernelRfl
namespace Go.Sx.N
open Go.Proofs
theorem ab4 : aC b49 6 63 = Tj := by kernel_rfl
theorem afm : aC KN 6 38 = VO := by kernel_rfl
theorem ahz : aC b51 6 155 = aaD := by kernel_rfl
theorem afp : aC Ii 6 154 = VP := by kernel_rfl
theorem XJ : aC b53 6 117 = LV := by kernel_rfl
theorem afr : aC b54 6 120 = VQ := by kernel_rfl
theorem ab9 : aC b55 6 82 = Tn := by kernel_rfl
theorem ace : aC b56 6 221 = Tq := by kernel_rfl
theorem acg : aC b57 6 219 = Tt := by kernel_rfl
theorem ahB : aC b58 6 192 = aaE := by kernel_rfl
end Go.Sx.N
