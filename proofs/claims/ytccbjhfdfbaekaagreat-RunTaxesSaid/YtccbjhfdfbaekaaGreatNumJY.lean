/-
 The conditions are what the executor says. Conditions: none; printed by a program of our own.
-/
import Derived.Test.YtccbjhfdfbaekaaGreatNumT
import Derived.Test.YtccbjhfdfbaekaaGreatNumVY
import Derived.KernelRfl
namespace Go.Sx.N
open Go.Proofs
theorem WX : aH QK 6 89 = KX := by kernel_rfl
theorem Ux : aH b80 6 168 = Hw := by kernel_rfl
theorem ab1 : aH QL 6 131 = Sr := by kernel_rfl
theorem QO : aH b82 6 88 = Fj := by kernel_rfl
theorem WZ : aH b83 6 90 = KY := by kernel_rfl
theorem aeR : aH QS 6 134 = Vl := by kernel_rfl
theorem agV : aH b85 6 92 = Z5 := by kernel_rfl
theorem UA : aH b86 6 62 = Hy := by kernel_rfl
end Go.Sx.N
