/-
 The conditions are what the executor says. Conditions: none; printed by a program of our own.
-/
import Derived.Test.YtccbjhfdfbaekaaGreatNumT
import Derived.Test.YtccbjhfdfbaekaaGreatNumVI
import Derived.KernelRfl
namespace Go.Sx.N
open Go.Proofs
theorem aiw : aT uH 6 161 = aae := by kernel_rfl
theorem aiy : aT b68 6 127 = aaf := by kernel_rfl
theorem afP : aT b69 6 128 = WC := by kernel_rfl
theorem ape : aT rP 6 58 = akc := by kernel_rfl
theorem aiA : aT b71 6 32 = aag := by kernel_rfl
end Go.Sx.N
