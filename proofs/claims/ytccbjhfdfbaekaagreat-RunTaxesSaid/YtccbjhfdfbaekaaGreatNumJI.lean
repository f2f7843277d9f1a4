/-
 The conditions are what the executor says. Conditions: none; printed by a program of our own.
-/
import Derived.Test.YtccbjhfdfbaekaaGreatNumT
import Derived.Test.YtccbjhfdfbaekaaGreatNumVI
import Derived.KernelRfl
namespace Go.Sx.N
open Go.Proofs
theorem abR : aH oZ 6 161 = RV := by kernel_rfl
theorem abT : aH b68 6 127 = RX := by kernel_rfl
theorem Ze : aH b69 6 128 = Oc := by kernel_rfl
theorem aiw : aH o7 6 58 = adL := by kernel_rfl
theorem abV : aH b71 6 32 = RY := by kernel_rfl
end Go.Sx.N
