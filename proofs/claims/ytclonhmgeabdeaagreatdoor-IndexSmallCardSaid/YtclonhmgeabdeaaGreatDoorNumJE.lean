/-
 The conditions are what the executor says. Conditions: none; printed by a program of our own.
-/
import Derived.Test.YtclonhmgeabdeaaGreatDoorNumT
import Derived.Test.YtclonhmgeabdeaaGreatDoorNumVE
import Derived.KernelRfl
namespace Go.Sx.N
open Go.Proofs
theorem j_rOne : VCA b58 6 91 = V_rOne := by kernel_rfl
theorem j_rFits : VCA b59 6 90 = V_rFits := by kernel_rfl
theorem j_rLowest : VCA b60 6 125 = V_rLowest := by kernel_rfl
theorem j_rValid2 : VCA b61 6 49 = V_rValid2 := by kernel_rfl
theorem j_rFromInt2 : VCA b62 6 45 = V_rFromInt2 := by kernel_rfl
theorem j_rPlus2 : VCA b63 6 87 = V_rPlus2 := by kernel_rfl
theorem j_rTimes2 : VCA b64 6 88 = V_rTimes2 := by kernel_rfl
end Go.Sx.N
