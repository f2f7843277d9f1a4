/-
 The conditions are what the executor says. Conditions: none; printed by a program of our own.
-/
import Derived.Test.YtmhhcnaflklapaaGreatNumT
import Derived.Test.YtmhhcnaflklapaaGreatNumVI
import Derived.KernelRfl
namespace Go.Sx.N
open Go.Proofs
theorem j_aShort : VCA b101 6 103 = V_aShort := by kernel_rfl
theorem j_aFirst : VCA b102 6 69 = V_aFirst := by kernel_rfl
theorem j_aAmount : VCA b103 6 70 = V_aAmount := by kernel_rfl
theorem j_Interest : VCA b104 6 10 = V_Interest := by kernel_rfl
theorem j_Late : VCA b105 6 22 = V_Late := by kernel_rfl
theorem j_Owed : VCA b106 6 23 = V_Owed := by kernel_rfl
theorem j_Owe : VCA b107 6 16 = V_Owe := by kernel_rfl
theorem j_Settle : VCA b108 6 21 = V_Settle := by kernel_rfl
theorem j_part : VCA b109 6 13 = V_part := by kernel_rfl
theorem j_rates : VCA b110 6 11 = V_rates := by kernel_rfl
theorem j_yearly : VCA b111 6 36 = V_yearly := by kernel_rfl
theorem j_lPosted : VCA b112 6 37 = V_lPosted := by kernel_rfl
theorem j_paids : VCA b113 6 24 = V_paids := by kernel_rfl
theorem j_ints : VCA b114 6 29 = V_ints := by kernel_rfl
theorem j_light : VCA b115 6 17 = V_light := by kernel_rfl
theorem j_near : VCA b116 6 18 = V_near := by kernel_rfl
theorem j_few : VCA b117 6 14 = V_few := by kernel_rfl
theorem j_aAwake : VCA b118 6 12 = V_aAwake := by kernel_rfl
theorem j_xOpen : VCA b119 6 28 = V_xOpen := by kernel_rfl
theorem j_xLate : VCA b120 6 27 = V_xLate := by kernel_rfl
end Go.Sx.N
