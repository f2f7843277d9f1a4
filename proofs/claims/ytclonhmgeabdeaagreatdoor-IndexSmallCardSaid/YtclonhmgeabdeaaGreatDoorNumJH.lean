/-
 The conditions are what the executor says. Conditions: none; printed by a program of our own.
-/
import Derived.Test.YtclonhmgeabdeaaGreatDoorNumT
import Derived.Test.YtclonhmgeabdeaaGreatDoorNumVH
import Derived.KernelRfl
namespace Go.Sx.N
open Go.Proofs
theorem j_cLeap : VCA b81 6 127 = V_cLeap := by kernel_rfl
theorem j_cLeaps : VCA b82 6 128 = V_cLeaps := by kernel_rfl
theorem j_cLen : VCA b83 6 102 = V_cLen := by kernel_rfl
theorem j_cStart : VCA b84 6 103 = V_cStart := by kernel_rfl
theorem j_cIsDate : VCA b85 6 104 = V_cIsDate := by kernel_rfl
theorem j_cDay : VCA b86 6 59 = V_cDay := by kernel_rfl
theorem j_isSpan : VCA b87 6 27 = V_isSpan := by kernel_rfl
theorem j_xYears : VCA b88 6 10 = V_xYears := by kernel_rfl
theorem j_xGrow : VCA b89 6 15 = V_xGrow := by kernel_rfl
theorem j_xRaise : VCA b90 6 16 = V_xRaise := by kernel_rfl
theorem j_xLower : VCA b91 6 17 = V_xLower := by kernel_rfl
end Go.Sx.N
