/-
  The conditions are what the executor says. Conditions: none; printed by a program of our own.
-/
import Derived.Test.YtjljnieafhdkgaaGreatDoorNumT
import Derived.Test.YtjljnieafhdkgaaGreatDoorNumVI
import Derived.KernelRfl
namespace Go.Sx.N
open Go.Proofs
theorem j_kSameInts : VCA b71 6 24 = V_kSameInts := by kernel_rfl
theorem j_rLeap3 : VCA b72 6 91 = V_rLeap3 := by kernel_rfl
theorem j_rLen3 : VCA b73 6 90 = V_rLen3 := by kernel_rfl
theorem j_rDay : VCA b74 6 62 = V_rDay := by kernel_rfl
theorem j_rYears : VCA b75 6 30 = V_rYears := by kernel_rfl
theorem j_iRow : VCA b76 6 28 = V_iRow := by kernel_rfl
theorem j_cpi : VCA b77 6 31 = V_cpi := by kernel_rfl
theorem j_iOne : VCA b78 6 15 = V_iOne := by kernel_rfl
theorem j_xAwake : VCA b79 6 11 = V_xAwake := by kernel_rfl
theorem j_yearsL : VCA b80 6 10 = V_yearsL := by kernel_rfl
theorem j_iBuilt : VCA b81 6 12 = V_iBuilt := by kernel_rfl
theorem j_asked : VCA b82 6 13 = V_asked := by kernel_rfl
end Go.Sx.N
