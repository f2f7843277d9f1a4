/-
 The conditions are what the executor says. Conditions: none; printed by a program of our own.
-/
import Derived.Test.YtccbjhfdfbaekaaGreatNumT
import Derived.Test.YtccbjhfdfbaekaaGreatNumVA
import Derived.KernelRfl
namespace Go.Sx.N
open Go.Proofs
theorem ad2 : aH b0 6 243 = UU := by kernel_rfl
theorem ad4 : aH b1 6 250 = UW := by kernel_rfl
theorem ad6 : aH b2 6 249 = UY := by kernel_rfl
theorem aga : aH b3 6 239 = Zt := by kernel_rfl
theorem ad9 : aH b4 6 248 = UZ := by kernel_rfl
theorem YK : aH b5 6 237 = NR := by kernel_rfl
theorem agc : aH b6 6 236 = Zu := by kernel_rfl
theorem agf : aH b7 6 203 = Zv := by kernel_rfl
theorem aa9 : aH b8 6 229 = QX := by kernel_rfl
theorem agi : aH b9 6 246 = Zw := by kernel_rfl
theorem aee : aH b10 6 247 = U0 := by kernel_rfl
theorem YN : aH b11 6 202 = NS := by kernel_rfl
theorem Pj : aH b12 6 238 = DT := by kernel_rfl
theorem YP : aH b13 6 240 = NT := by kernel_rfl
theorem abe : aH b14 6 226 = QY := by kernel_rfl
theorem agk : aH b15 6 252 = Zx := by kernel_rfl
theorem WB : aH b16 6 244 = JY := by kernel_rfl
theorem QE : aH b17 6 245 = EK := by kernel_rfl
theorem JU : aH b18 6 235 = Ah := by kernel_rfl
end Go.Sx.N
