/-
 The conditions are what the executor says. Conditions: none; printed by a program of our own.
-/
import Derived.Test.YtccbjhfdfbaekaaGreatNumT
import Derived.Test.YtccbjhfdfbaekaaGreatNumVZ
import Derived.KernelRfl
namespace Go.Sx.N
open Go.Proofs
theorem Z7 : aC b87 6 55 = O6 := by kernel_rfl
theorem ahM : aC b88 6 56 = aaH := by kernel_rfl
theorem acI : aC b89 6 25 = TP := by kernel_rfl
theorem afH : aC b90 6 27 = V4 := by kernel_rfl
theorem ajp : aC RQ 6 8 = aeA := by kernel_rfl
theorem ahP : aC b92 6 12 = aaI := by kernel_rfl
theorem ahR : aC RU 6 46 = aaJ := by kernel_rfl
theorem acL : aC b94 6 17 = TQ := by kernel_rfl
theorem afL : aC b95 6 11 = V5 := by kernel_rfl
theorem XU : aC RV 6 9 = LY := by kernel_rfl
theorem aad : aC b97 6 21 = O7 := by kernel_rfl
theorem acO : aC b98 6 10 = TS := by kernel_rfl
theorem acQ : aC b99 6 14 = TU := by kernel_rfl
theorem acS : aC zB 6 44 = TV := by kernel_rfl
theorem ahT : aC Nr 6 15 = aaK := by kernel_rfl
end Go.Sx.N
