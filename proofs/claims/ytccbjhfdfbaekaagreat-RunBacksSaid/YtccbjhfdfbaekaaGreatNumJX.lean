/-
 The conditions are what the executor says. Conditions: none; printed by a program of our own.
-/
import Derived.Test.YtccbjhfdfbaekaaGreatNumT
import Derived.Test.YtccbjhfdfbaekaaGreatNumVX
import Derived.KernelRfl
namespace Go.Sx.N
open Go.Proofs
theorem ZY : aC b72 6 129 = O4 := by kernel_rfl
theorem afw : aC b73 6 130 = VW := by kernel_rfl
theorem afy : aC b74 6 86 = VX := by kernel_rfl
theorem Qj : aC b75 6 42 = Ef := by kernel_rfl
theorem Ql : aC b76 6 13 = Eh := by kernel_rfl
theorem ahI : aC b77 6 59 = aaF := by kernel_rfl
theorem afB : aC b78 6 35 = VY := by kernel_rfl
end Go.Sx.N
