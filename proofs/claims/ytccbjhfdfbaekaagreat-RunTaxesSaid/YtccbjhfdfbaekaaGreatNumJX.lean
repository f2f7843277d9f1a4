/-
 The conditions are what the executor says. Conditions: none; printed by a program of our own.
-/
import Derived.Test.YtccbjhfdfbaekaaGreatNumT
import Derived.Test.YtccbjhfdfbaekaaGreatNumVX
import Derived.KernelRfl
namespace Go.Sx.N
open Go.Proofs
theorem Zh : aH b72 6 129 = Oe := by kernel_rfl
theorem aeK : aH b73 6 130 = Vg := by kernel_rfl
theorem aeM : aH b74 6 86 = Vh := by kernel_rfl
theorem Po : aH b75 6 42 = DX := by kernel_rfl
theorem Pv : aH b76 6 13 = DY := by kernel_rfl
theorem agT : aH b77 6 59 = Z4 := by kernel_rfl
theorem aeP : aH b78 6 35 = Vj := by kernel_rfl
end Go.Sx.N
