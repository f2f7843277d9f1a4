/-
 The conditions are what the executor says. Conditions: none; printed by a program of our own.
-/
import Derived.Test.YtmhhcnaflklapaaGreatNumT
import Derived.Test.YtmhhcnaflklapaaGreatNumVR
import Derived.KernelRfl
namespace Go.Sx.N
open Go.Proofs
theorem j_tRight : VCA b121 6 75 = V_tRight := by kernel_rfl
theorem j_tBefore : VCA b122 6 76 = V_tBefore := by kernel_rfl
theorem j_rTValid : VCA b123 6 43 = V_rTValid := by kernel_rfl
theorem j_tForce : VCA b124 6 78 = V_tForce := by kernel_rfl
theorem j_rLook : VCA b125 6 45 = V_rLook := by kernel_rfl
theorem j_rOver : VCA b126 6 84 = V_rOver := by kernel_rfl
theorem j_rZero : VCA b127 6 83 = V_rZero := by kernel_rfl
theorem j_rAdd2 : VCA b128 6 46 = V_rAdd2 := by kernel_rfl
theorem j_rMul2 : VCA b129 6 47 = V_rMul2 := by kernel_rfl
theorem j_rDiv2 : VCA b130 6 48 = V_rDiv2 := by kernel_rfl
theorem j_rFactor : VCA b131 6 87 = V_rFactor := by kernel_rfl
theorem j_rRound2 : VCA b132 6 49 = V_rRound2 := by kernel_rfl
theorem j_xInterest : VCA b133 6 19 = V_xInterest := by kernel_rfl
theorem j_xOwe : VCA b134 6 20 = V_xOwe := by kernel_rfl
theorem j_xPost : VCA b135 6 30 = V_xPost := by kernel_rfl
end Go.Sx.N
