/-
  The conditions are what the executor says. Conditions: none; printed by a program of our own.
-/
import Derived.Test.YtjljnieafhdkgaaGreatDoorNumT
import Derived.Test.YtjljnieafhdkgaaGreatDoorNumVH
import Derived.KernelRfl
namespace Go.Sx.N
open Go.Proofs
theorem j_cLeap : VCA b60 6 68 = V_cLeap := by kernel_rfl
theorem j_cLeaps : VCA b61 6 69 = V_cLeaps := by kernel_rfl
theorem j_cLen : VCA b62 6 40 = V_cLen := by kernel_rfl
theorem j_cStart : VCA b63 6 41 = V_cStart := by kernel_rfl
theorem j_cIsDate : VCA b64 6 42 = V_cIsDate := by kernel_rfl
theorem j_cDay : VCA b65 6 16 = V_cDay := by kernel_rfl
theorem j_isSpan : VCA b66 6 33 = V_isSpan := by kernel_rfl
theorem j_xYears : VCA b67 6 23 = V_xYears := by kernel_rfl
theorem j_xGrow : VCA b68 6 14 = V_xGrow := by kernel_rfl
theorem j_xRaise : VCA b69 6 26 = V_xRaise := by kernel_rfl
theorem j_xLower : VCA b70 6 27 = V_xLower := by kernel_rfl
end Go.Sx.N
