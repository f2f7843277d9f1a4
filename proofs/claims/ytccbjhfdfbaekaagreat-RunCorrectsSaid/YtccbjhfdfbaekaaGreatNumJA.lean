/-
 The conditions are what the executor says. Conditions: none; printed by a program of our own.
-/
import Derived.Test.YtccbjhfdfbaekaaGreatNumT
import Derived.Test.YtccbjhfdfbaekaaGreatNumVA
import Derived.KernelRfl
namespace Go.Sx.N
open Go.Proofs
theorem akx : aT b0 6 243 = abN := by kernel_rfl
theorem akz : aT b1 6 250 = abO := by kernel_rfl
theorem akB : aT b2 6 249 = abP := by kernel_rfl
theorem amS : aT b3 6 239 = af5 := by kernel_rfl
theorem akE : aT b4 6 248 = abQ := by kernel_rfl
theorem afp : aT b5 6 237 = Wh := by kernel_rfl
theorem amU : aT b6 6 236 = af6 := by kernel_rfl
theorem amW : aT b7 6 203 = af7 := by kernel_rfl
theorem ahP : aT b8 6 229 = Zx := by kernel_rfl
theorem amY : aT b9 6 246 = af8 := by kernel_rfl
theorem akJ : aT b10 6 247 = abR := by kernel_rfl
theorem afs : aT b11 6 202 = Wi := by kernel_rfl
theorem XB : aT b12 6 238 = Kr := by kernel_rfl
theorem afu : aT b13 6 240 = Wj := by kernel_rfl
theorem ahS : aT b14 6 226 = Zy := by kernel_rfl
theorem am0 : aT b15 6 252 = af9 := by kernel_rfl
theorem adu : aT b16 6 244 = SC := by kernel_rfl
theorem Zh : aT b17 6 245 = Me := by kernel_rfl
theorem Sr : aT b18 6 235 = Gh := by kernel_rfl
end Go.Sx.N
