/-
 The conditions are what the executor says. Conditions: none; printed by a program of our own.
-/
import Derived.Test.YtccbjhfdfbaekaaGreatNumT
import Derived.Test.YtccbjhfdfbaekaaGreatNumVB
import Derived.KernelRfl
namespace Go.Sx.N
open Go.Proofs
theorem agm : aH b19 6 227 = ZH := by kernel_rfl
theorem aei : aH b20 6 228 = U6 := by kernel_rfl
theorem aek : aH zf 6 225 = U7 := by kernel_rfl
theorem YS : aH b22 6 191 = N9 := by kernel_rfl
theorem abj : aH mY 6 212 = Ry := by kernel_rfl
theorem Uk : aH UR 6 201 = Hr := by kernel_rfl
theorem WG : aH b25 6 158 = KQ := by kernel_rfl
theorem agp : aH Ho 6 178 = ZI := by kernel_rfl
theorem abl : aH b27 6 224 = Rz := by kernel_rfl
theorem ais : aH b28 6 230 = adK := by kernel_rfl
theorem ags : aH b29 6 204 = ZJ := by kernel_rfl
theorem agu : aH b30 6 197 = ZK := by kernel_rfl
theorem YW : aH b31 6 200 = Oa := by kernel_rfl
theorem agw : aH b32 6 223 = ZL := by kernel_rfl
theorem agy : aH b33 6 174 = ZM := by kernel_rfl
end Go.Sx.N
