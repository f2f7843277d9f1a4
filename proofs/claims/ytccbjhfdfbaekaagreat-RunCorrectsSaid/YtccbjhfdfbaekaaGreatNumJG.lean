/-
 The conditions are what the executor says. Conditions: none; printed by a program of our own.
-/
import Derived.Test.YtccbjhfdfbaekaaGreatNumT
import Derived.Test.YtccbjhfdfbaekaaGreatNumVG
import Derived.KernelRfl
namespace Go.Sx.N
open Go.Proofs
theorem apc : aT Sz 6 68 = ad5 := by kernel_rfl
theorem aio : aT b60 6 66 = Qz := by kernel_rfl
theorem alb : aT SA 6 41 = Vq := by kernel_rfl
theorem aiq : aT b62 6 69 = QA := by kernel_rfl
theorem anw : aT b63 6 43 = aac := by kernel_rfl
theorem ais : aT b64 6 71 = QB := by kernel_rfl
theorem anz : aT uG 6 45 = aad := by kernel_rfl
theorem aiu : aT b66 6 57 = QC := by kernel_rfl
end Go.Sx.N
