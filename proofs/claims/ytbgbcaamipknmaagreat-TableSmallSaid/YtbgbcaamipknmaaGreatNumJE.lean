/-
 The conditions are what the executor says. Conditions: none; printed by a program of our own.
-/
import Derived.Test.YtbgbcaamipknmaaGreatNumT
import Derived.Test.YtbgbcaamipknmaaGreatNumVE
import Derived.KernelRfl
namespace Go.Sx.N
open Go.Proofs
theorem j_rOne : VCA b34 6 102 = V_rOne := by kernel_rfl
theorem j_rFits : VCA b35 6 101 = V_rFits := by kernel_rfl
theorem j_rValid2 : VCA b36 6 58 = V_rValid2 := by kernel_rfl
end Go.Sx.N
