/-
 The conditions are what the executor says. Conditions: none; printed by a program of our own.
-/
import Derived.Test.YtccbjhfdfbaekaaGreatNumT
import Derived.Test.YtccbjhfdfbaekaaGreatNumVC
import Derived.KernelRfl
namespace Go.Sx.N
open Go.Proofs
theorem WJ : aH kQ 6 195 = KR := by kernel_rfl
theorem WM : aH JV 6 196 = KT := by kernel_rfl
theorem aes : aH b36 6 175 = U8 := by kernel_rfl
theorem abo : aH Ez 6 164 = RD := by kernel_rfl
theorem Y2 : aH b38 6 173 = Ob := by kernel_rfl
theorem abq : aH EC 6 163 = RF := by kernel_rfl
theorem abt : aH Af 6 157 = RG := by kernel_rfl
theorem Ur : aH zh 6 162 = Ht := by kernel_rfl
theorem WR : aH vC 6 121 = KU := by kernel_rfl
theorem agA : aH ED 6 160 = ZN := by kernel_rfl
theorem agC : aH QI 6 125 = ZO := by kernel_rfl
theorem agE : aH oC 6 126 = ZP := by kernel_rfl
theorem agG : aH b46 6 167 = ZQ := by kernel_rfl
theorem agI : aH Ag 6 136 = ZR := by kernel_rfl
theorem abv : aH b48 6 135 = RH := by kernel_rfl
end Go.Sx.N
