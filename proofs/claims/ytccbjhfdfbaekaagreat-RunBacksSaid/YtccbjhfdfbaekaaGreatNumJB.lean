/-
 The conditions are what the executor says. Conditions: none; printed by a program of our own.
-/
import Derived.Test.YtccbjhfdfbaekaaGreatNumT
import Derived.Test.YtccbjhfdfbaekaaGreatNumVB
import Derived.KernelRfl
namespace Go.Sx.N
open Go.Proofs
theorem ahc : aC b19 6 227 = aas := by kernel_rfl
theorem ae6 : aC b20 6 228 = VK := by kernel_rfl
theorem ae8 : aC zy 6 225 = VL := by kernel_rfl
theorem ZA : aC b22 6 191 = OW := by kernel_rfl
theorem abQ : aC nH 6 212 = SY := by kernel_rfl
theorem U3 : aC Vy 6 201 = Ij := by kernel_rfl
theorem Xz : aC b25 6 158 = LM := by kernel_rfl
theorem ahe : aC b26 6 178 = aat := by kernel_rfl
theorem abS : aC b27 6 224 = S9 := by kernel_rfl
theorem ajj : aC b28 6 230 = aey := by kernel_rfl
theorem ahh : aC b29 6 204 = aau := by kernel_rfl
theorem ahj : aC b30 6 197 = aav := by kernel_rfl
theorem ZF : aC b31 6 200 = OX := by kernel_rfl
theorem ahl : aC b32 6 223 = aaw := by kernel_rfl
theorem ahn : aC b33 6 174 = aax := by kernel_rfl
end Go.Sx.N
