/-
 The conditions are what the executor says. Conditions: none; printed by a program of our own.
-/
import Derived.Test.YtccbjhfdfbaekaaGreatNumT
import Derived.Test.YtccbjhfdfbaekaaGreatNumVH
import Derived.KernelRfl
namespace Go.Sx.N
open Go.Proofs
theorem ah9 : aT b49 6 63 = Z5 := by kernel_rfl
theorem ak3 : aT Hy 6 38 = ab2 := by kernel_rfl
theorem anr : aT b51 6 155 = agp := by kernel_rfl
theorem ak6 : aT Pg 6 154 = ab3 := by kernel_rfl
theorem adI : aT b53 6 117 = TJ := by kernel_rfl
theorem ak8 : aT b54 6 120 = ab4 := by kernel_rfl
theorem aif : aT b55 6 82 = Z7 := by kernel_rfl
theorem aij : aT b56 6 221 = Z8 := by kernel_rfl
theorem ail : aT b57 6 219 = Z9 := by kernel_rfl
theorem anu : aT b58 6 192 = agq := by kernel_rfl
end Go.Sx.N
