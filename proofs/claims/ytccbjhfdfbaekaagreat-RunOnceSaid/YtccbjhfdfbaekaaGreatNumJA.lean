/-
 The conditions are what the executor says. Conditions: none; printed by a program of our own.
-/
import Derived.Test.YtccbjhfdfbaekaaGreatNumT
import Derived.Test.YtccbjhfdfbaekaaGreatNumVA
import Derived.KernelRfl
namespace Go.Sx.N
open Go.Proofs
theorem j_Sub32 : VCA b0 6 243 = V_Sub32 := by kernel_rfl
theorem j_Add32 : VCA b1 6 250 = V_Add32 := by kernel_rfl
theorem j_Len32 : VCA b2 6 249 = V_Len32 := by kernel_rfl
theorem j_Lz32 : VCA b3 6 239 = V_Lz32 := by kernel_rfl
theorem j_Div32 : VCA b4 6 248 = V_Div32 := by kernel_rfl
theorem j_Clone32 : VCA b5 6 237 = V_Clone32 := by kernel_rfl
theorem j_trim : VCA b6 6 236 = V_trim := by kernel_rfl
theorem j_pack : VCA b7 6 203 = V_pack := by kernel_rfl
theorem j_unpack : VCA b8 6 229 = V_unpack := by kernel_rfl
theorem j_long : VCA b9 6 246 = V_long := by kernel_rfl
theorem j_short : VCA b10 6 247 = V_short := by kernel_rfl
theorem j_compare : VCA b11 6 202 = V_compare := by kernel_rfl
theorem j_divideShort : VCA b12 6 238 = V_divideShort := by kernel_rfl
theorem j_shifted : VCA b13 6 240 = V_shifted := by kernel_rfl
theorem j_divide : VCA b14 6 226 = V_divide := by kernel_rfl
theorem j_head : VCA b15 6 252 = V_head := by kernel_rfl
theorem j_simulate : VCA b16 6 244 = V_simulate := by kernel_rfl
theorem j_difference : VCA b17 6 245 = V_difference := by kernel_rfl
theorem j_commonDivisor : VCA b18 6 235 = V_commonDivisor := by kernel_rfl
end Go.Sx.N
