/-
 The conditions are what the executor says. Conditions: none; printed by a program of our own.
-/
import Derived.Test.YtccbjhfdfbaekaaGreatNumT
import Derived.Test.YtccbjhfdfbaekaaGreatNumVZ
import Derived.KernelRfl
namespace Go.Sx.N
open Go.Proofs
theorem Zk : aH b87 6 55 = Oh := by kernel_rfl
theorem agX : aH b88 6 56 = Z7 := by kernel_rfl
theorem ab4 : aH b89 6 25 = Sv := by kernel_rfl
theorem aeV : aH b90 6 27 = Vm := by kernel_rfl
theorem aiy : aH QU 6 8 = adM := by kernel_rfl
theorem ag0 : aH b92 6 12 = Z8 := by kernel_rfl
theorem ag2 : aH QV 6 46 = Z9 := by kernel_rfl
theorem ab7 : aH b94 6 17 = Sz := by kernel_rfl
theorem aeZ : aH b95 6 11 = Vo := by kernel_rfl
theorem Xb : aH QW 6 9 = KZ := by kernel_rfl
theorem Zo : aH b97 6 21 = Oi := by kernel_rfl
theorem acd : aH b98 6 10 = SA := by kernel_rfl
theorem acf : aH b99 6 14 = SB := by kernel_rfl
theorem ach : aH zi 6 44 = SC := by kernel_rfl
theorem ag3 : aH MC 6 15 = aac := by kernel_rfl
end Go.Sx.N
