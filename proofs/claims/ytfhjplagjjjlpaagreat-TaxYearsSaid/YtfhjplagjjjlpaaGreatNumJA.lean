/-
 The conditions are what the executor says. Conditions: none; printed by a program of our own.
-/
import Derived.Test.YtfhjplagjjjlpaaGreatNumT
import Derived.Test.YtfhjplagjjjlpaaGreatNumVA
import Derived.KernelRfl
namespace Go.Sx.N
open Go.Proofs
theorem j_Sub32 : VCA b0 6 124 = V_Sub32 := by kernel_rfl
theorem j_Add32 : VCA b1 6 128 = V_Add32 := by kernel_rfl
theorem j_Len32 : VCA b2 6 127 = V_Len32 := by kernel_rfl
theorem j_Lz32 : VCA b3 6 120 = V_Lz32 := by kernel_rfl
theorem j_Div32 : VCA b4 6 126 = V_Div32 := by kernel_rfl
theorem j_Clone32 : VCA b5 6 118 = V_Clone32 := by kernel_rfl
theorem j_trim : VCA b6 6 117 = V_trim := by kernel_rfl
theorem j_pack : VCA b7 6 80 = V_pack := by kernel_rfl
theorem j_unpack : VCA b8 6 109 = V_unpack := by kernel_rfl
theorem j_long : VCA b9 6 132 = V_long := by kernel_rfl
theorem j_short : VCA b10 6 133 = V_short := by kernel_rfl
theorem j_compare : VCA b11 6 79 = V_compare := by kernel_rfl
theorem j_divideShort : VCA b12 6 119 = V_divideShort := by kernel_rfl
theorem j_shifted : VCA b13 6 121 = V_shifted := by kernel_rfl
theorem j_divide : VCA b14 6 106 = V_divide := by kernel_rfl
theorem j_head : VCA b15 6 134 = V_head := by kernel_rfl
theorem j_simulate : VCA b16 6 130 = V_simulate := by kernel_rfl
theorem j_difference : VCA b17 6 131 = V_difference := by kernel_rfl
theorem j_commonDivisor : VCA b18 6 125 = V_commonDivisor := by kernel_rfl
end Go.Sx.N
