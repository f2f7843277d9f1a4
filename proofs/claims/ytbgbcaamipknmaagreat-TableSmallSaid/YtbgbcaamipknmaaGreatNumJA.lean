/-
 The conditions are what the executor says. Conditions: none; printed by a program of our own.
-/
import Derived.Test.YtbgbcaamipknmaaGreatNumT
import Derived.Test.YtbgbcaamipknmaaGreatNumVA
import Derived.KernelRfl
namespace Go.Sx.N
open Go.Proofs
theorem j_Sub32 : VCA b0 6 182 = V_Sub32 := by kernel_rfl
theorem j_Add32 : VCA b1 6 187 = V_Add32 := by kernel_rfl
theorem j_Len32 : VCA b2 6 184 = V_Len32 := by kernel_rfl
theorem j_Lz32 : VCA b3 6 176 = V_Lz32 := by kernel_rfl
theorem j_Div32 : VCA b4 6 186 = V_Div32 := by kernel_rfl
theorem j_Clone32 : VCA b5 6 178 = V_Clone32 := by kernel_rfl
theorem j_trim : VCA b6 6 168 = V_trim := by kernel_rfl
theorem j_pack : VCA b7 6 165 = V_pack := by kernel_rfl
theorem j_unpack : VCA b8 6 163 = V_unpack := by kernel_rfl
theorem j_long : VCA b9 6 173 = V_long := by kernel_rfl
theorem j_short : VCA b10 6 174 = V_short := by kernel_rfl
theorem j_compare : VCA b11 6 169 = V_compare := by kernel_rfl
theorem j_divideShort : VCA b12 6 179 = V_divideShort := by kernel_rfl
theorem j_shifted : VCA b13 6 180 = V_shifted := by kernel_rfl
theorem j_divide : VCA b14 6 171 = V_divide := by kernel_rfl
theorem j_head : VCA b15 6 177 = V_head := by kernel_rfl
theorem j_simulate : VCA b16 6 170 = V_simulate := by kernel_rfl
theorem j_difference : VCA b17 6 172 = V_difference := by kernel_rfl
theorem j_commonDivisor : VCA b18 6 164 = V_commonDivisor := by kernel_rfl
end Go.Sx.N
