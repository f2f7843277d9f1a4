/-
 The conditions are what the executor says. Conditions: none; printed by a program of our own.
-/
import Derived.Test.YtccbjhfdfbaekaaGreatNumT
import Derived.Test.YtccbjhfdfbaekaaGreatNumVB
import Derived.KernelRfl
namespace Go.Sx.N
open Go.Proofs
theorem am2 : aT b19 6 227 = agb := by kernel_rfl
theorem akN : aT b20 6 228 = abY := by kernel_rfl
theorem akP : aT EW 6 225 = abZ := by kernel_rfl
theorem afx : aT b22 6 191 = Wx := by kernel_rfl
theorem ahW : aT rM 6 212 = ZU := by kernel_rfl
theorem aa8 : aT b24 6 201 = Ph := by kernel_rfl
theorem ady : aT b25 6 158 = TB := by kernel_rfl
theorem am4 : aT b26 6 178 = agc := by kernel_rfl
theorem ahY : aT b27 6 224 = ZV := by kernel_rfl
theorem apa : aT b28 6 230 = akb := by kernel_rfl
theorem am7 : aT b29 6 204 = agd := by kernel_rfl
theorem am9 : aT b30 6 197 = agf := by kernel_rfl
theorem afB : aT b31 6 200 = Wy := by kernel_rfl
theorem anb : aT b32 6 223 = agh := by kernel_rfl
theorem ane : aT b33 6 174 = agi := by kernel_rfl
end Go.Sx.N
