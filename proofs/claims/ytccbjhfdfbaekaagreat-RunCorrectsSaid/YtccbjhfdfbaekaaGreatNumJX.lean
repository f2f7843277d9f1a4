/-
 The conditions are what the executor says. Conditions: none; printed by a program of our own.
-/
import Derived.Test.YtccbjhfdfbaekaaGreatNumT
import Derived.Test.YtccbjhfdfbaekaaGreatNumVX
import Derived.KernelRfl
namespace Go.Sx.N
open Go.Proofs
theorem afS : aT b72 6 129 = WE := by kernel_rfl
theorem ald : aT b73 6 130 = ab5 := by kernel_rfl
theorem alf : aT b74 6 86 = ab6 := by kernel_rfl
theorem XE : aT b75 6 42 = Kv := by kernel_rfl
theorem XG : aT b76 6 13 = Kw := by kernel_rfl
theorem anC : aT b77 6 59 = agr := by kernel_rfl
theorem ali : aT b78 6 35 = ab7 := by kernel_rfl
end Go.Sx.N
