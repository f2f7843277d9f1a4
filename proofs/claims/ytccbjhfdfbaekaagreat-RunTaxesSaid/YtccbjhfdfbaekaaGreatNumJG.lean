/-
 The conditions are what the executor says. Conditions: none; printed by a program of our own.
-/
import Derived.Test.YtccbjhfdfbaekaaGreatNumT
import Derived.Test.YtccbjhfdfbaekaaGreatNumVG
import Derived.KernelRfl
namespace Go.Sx.N
open Go.Proofs
theorem aiu : aH JX 6 68 = Xp := by kernel_rfl
theorem abJ : aH b60 6 66 = IW := by kernel_rfl
theorem aeI : aH EF 6 41 = Nc := by kernel_rfl
theorem abL : aH Za 6 69 = IX := by kernel_rfl
theorem agO : aH b63 6 43 = RQ := by kernel_rfl
theorem abN : aH b64 6 71 = IY := by kernel_rfl
theorem agQ : aH oW 6 45 = RU := by kernel_rfl
theorem abP : aH b66 6 57 = IZ := by kernel_rfl
end Go.Sx.N
