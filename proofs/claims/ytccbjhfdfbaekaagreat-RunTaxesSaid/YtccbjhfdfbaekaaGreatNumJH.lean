/-
 The conditions are what the executor says. Conditions: none; printed by a program of our own.
-/
import Derived.Test.YtccbjhfdfbaekaaGreatNumT
import Derived.Test.YtccbjhfdfbaekaaGreatNumVH
import Derived.KernelRfl
namespace Go.Sx.N
open Go.Proofs
theorem abx : aH b49 6 63 = RI := by kernel_rfl
theorem aeA : aH JW 6 38 = U9 := by kernel_rfl
theorem agK : aH b51 6 155 = ZT := by kernel_rfl
theorem aeD : aH Hq 6 154 = Va := by kernel_rfl
theorem WT : aH b53 6 117 = KW := by kernel_rfl
theorem aeF : aH b54 6 120 = Vb := by kernel_rfl
theorem abC : aH b55 6 82 = RJ := by kernel_rfl
theorem abE : aH b56 6 221 = RN := by kernel_rfl
theorem abH : aH b57 6 219 = RP := by kernel_rfl
theorem agM : aH b58 6 192 = ZU := by kernel_rfl
end Go.Sx.N
