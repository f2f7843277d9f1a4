/-
 The conditions are what the executor says. Conditions: none; printed by a program of our own.
-/
import Derived.Test.YtccbjhfdfbaekaaGreatNumT
import Derived.Test.YtccbjhfdfbaekaaGreatNumVA
import Derived.KernelRfl
namespace Go.Sx.N
open Go.Proofs
theorem aeQ : aC b0 6 243 = Vz := by kernel_rfl
theorem aeS : aC b1 6 250 = VA := by kernel_rfl
theorem aeU : aC b2 6 249 = VB := by kernel_rfl
theorem ag2 : aC b3 6 239 = aak := by kernel_rfl
theorem aeX : aC b4 6 248 = VD := by kernel_rfl
theorem Zr : aC b5 6 237 = OJ := by kernel_rfl
theorem ag4 : aC b6 6 236 = aal := by kernel_rfl
theorem ag6 : aC b7 6 203 = aam := by kernel_rfl
theorem abJ : aC b8 6 229 = RX := by kernel_rfl
theorem ag8 : aC b9 6 246 = aan := by kernel_rfl
theorem ae2 : aC b10 6 247 = VE := by kernel_rfl
theorem Zv : aC b11 6 202 = OL := by kernel_rfl
theorem Qg : aC b12 6 238 = Ea := by kernel_rfl
theorem Zx : aC b13 6 240 = OM := by kernel_rfl
theorem abM : aC b14 6 226 = RY := by kernel_rfl
theorem aha : aC b15 6 252 = aao := by kernel_rfl
theorem Xw : aC b16 6 244 = KQ := by kernel_rfl
theorem Rt : aC b17 6 245 = EZ := by kernel_rfl
theorem KJ : aC b18 6 235 = Au := by kernel_rfl
end Go.Sx.N
