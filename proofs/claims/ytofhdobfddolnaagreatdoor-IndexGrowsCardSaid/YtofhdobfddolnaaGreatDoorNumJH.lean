/-
 The conditions are what the executor says. Conditions: none; printed by a program of our own.
-/
import Derived.Test.YtofhdobfddolnaaGreatDoorNumT
import Derived.Test.YtofhdobfddolnaaGreatDoorNumVH
import Derived.KernelRfl
namespace Go.Sx.N
open Go.Proofs
theorem j_cLeap : VCA b82 6 129 = V_cLeap := by kernel_rfl
theorem j_cLeaps : VCA b83 6 130 = V_cLeaps := by kernel_rfl
theorem j_cLen : VCA b84 6 106 = V_cLen := by kernel_rfl
theorem j_cStart : VCA b85 6 107 = V_cStart := by kernel_rfl
theorem j_cIsDate : VCA b86 6 108 = V_cIsDate := by kernel_rfl
theorem j_cDay : VCA b87 6 67 = V_cDay := by kernel_rfl
theorem j_isSpan : VCA b88 6 29 = V_isSpan := by kernel_rfl
theorem j_xYears : VCA b89 6 21 = V_xYears := by kernel_rfl
theorem j_xGrow : VCA b90 6 10 = V_xGrow := by kernel_rfl
theorem j_xRaise : VCA b91 6 11 = V_xRaise := by kernel_rfl
theorem j_xLower : VCA b92 6 12 = V_xLower := by kernel_rfl
end Go.Sx.N
