/-
 The conditions are what the executor says. Conditions: none; printed by a program of our own.
-/
import Derived.Test.YtccbjhfdfbaekaaGreatNumT
import Derived.Test.YtccbjhfdfbaekaaGreatNumVC
import Derived.KernelRfl
namespace Go.Sx.N
open Go.Proofs
theorem XC : aC nI 6 195 = LP := by kernel_rfl
theorem XE : aC KL 6 196 = LQ := by kernel_rfl
theorem aff : aC b36 6 175 = VN := by kernel_rfl
theorem abV : aC Rw 6 164 = Tc := by kernel_rfl
theorem ZI : aC b38 6 173 = OY := by kernel_rfl
theorem abX : aC EO 6 163 = Td := by kernel_rfl
theorem abZ : aC uZ 6 157 = Tf := by kernel_rfl
theorem U8 : aC zA 6 162 = Ik := by kernel_rfl
theorem XH : aC vC 6 121 = LU := by kernel_rfl
theorem ahp : aC EP 6 160 = aay := by kernel_rfl
theorem ahr : aC Ry 6 125 = aaz := by kernel_rfl
theorem aht : aC oI 6 126 = aaA := by kernel_rfl
theorem ahv : aC b46 6 167 = aaB := by kernel_rfl
theorem ahx : aC Ar 6 136 = aaC := by kernel_rfl
theorem ab2 : aC b48 6 135 = Ti := by kernel_rfl
end Go.Sx.N
