/-
 The conditions are what the executor says. Conditions: none; printed by a program of our own.
-/
import Derived.Test.YtccbjhfdfbaekaaGreatNumT
import Derived.Test.YtccbjhfdfbaekaaGreatNumVQ
import Derived.KernelRfl
namespace Go.Sx.N
open Go.Proofs
theorem ahV : aC I7 6 48 = Uc := by kernel_rfl
theorem afO : aC Ns 6 19 = V9 := by kernel_rfl
theorem ahX : aC CU 6 73 = Ud := by kernel_rfl
theorem acW : aC acU 6 100 = JG := by kernel_rfl
theorem acY : aC Nw 6 72 = JH := by kernel_rfl
theorem ac0 : aC I8 6 54 = JI := by kernel_rfl
theorem afQ : aC kH 6 47 = Wh := by kernel_rfl
theorem ac7 : aC zC 6 24 = Ue := by kernel_rfl
theorem aaj : aC b110 6 18 = Pg := by kernel_rfl
theorem afS : aC zD 6 16 = Wi := by kernel_rfl
theorem afT : aC ac8 6 20 = Wj := by kernel_rfl
end Go.Sx.N
