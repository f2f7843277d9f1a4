/-
 The conditions are what the executor says. Conditions: none; printed by a program of our own.
-/
import Derived.Test.YtclonhmgeabdeaaGreatDoorNumT
import Derived.Test.YtclonhmgeabdeaaGreatDoorNumVA
import Derived.KernelRfl
namespace Go.Sx.N
open Go.Proofs
theorem j_Sub32 : VCA b0 6 165 = V_Sub32 := by kernel_rfl
theorem j_Add32 : VCA b1 6 170 = V_Add32 := by kernel_rfl
theorem j_Len32 : VCA b2 6 169 = V_Len32 := by kernel_rfl
theorem j_Lz32 : VCA b3 6 161 = V_Lz32 := by kernel_rfl
theorem j_Div32 : VCA b4 6 168 = V_Div32 := by kernel_rfl
theorem j_Clone32 : VCA b5 6 159 = V_Clone32 := by kernel_rfl
theorem j_trim : VCA b6 6 153 = V_trim := by kernel_rfl
theorem j_pack : VCA b7 6 135 = V_pack := by kernel_rfl
theorem j_unpack : VCA b8 6 147 = V_unpack := by kernel_rfl
theorem j_long : VCA b9 6 157 = V_long := by kernel_rfl
theorem j_short : VCA b10 6 158 = V_short := by kernel_rfl
theorem j_compare : VCA b11 6 152 = V_compare := by kernel_rfl
theorem j_divideShort : VCA b12 6 160 = V_divideShort := by kernel_rfl
theorem j_shifted : VCA b13 6 162 = V_shifted := by kernel_rfl
theorem j_divide : VCA b14 6 149 = V_divide := by kernel_rfl
theorem j_head : VCA b15 6 166 = V_head := by kernel_rfl
theorem j_simulate : VCA b16 6 155 = V_simulate := by kernel_rfl
theorem j_difference : VCA b17 6 156 = V_difference := by kernel_rfl
theorem j_commonDivisor : VCA b18 6 148 = V_commonDivisor := by kernel_rfl
end Go.Sx.N
