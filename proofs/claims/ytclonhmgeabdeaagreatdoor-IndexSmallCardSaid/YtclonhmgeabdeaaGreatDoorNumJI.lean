/-
 The conditions are what the executor says. Conditions: none; printed by a program of our own.
-/
import Derived.Test.YtclonhmgeabdeaaGreatDoorNumT
import Derived.Test.YtclonhmgeabdeaaGreatDoorNumVI
import Derived.KernelRfl
namespace Go.Sx.N
open Go.Proofs
theorem j_kSameInts : VCA b92 6 12 = V_kSameInts := by kernel_rfl
theorem j_rLeap3 : VCA b93 6 61 = V_rLeap3 := by kernel_rfl
theorem j_rLen3 : VCA b94 6 60 = V_rLen3 := by kernel_rfl
theorem j_rDay : VCA b95 6 30 = V_rDay := by kernel_rfl
theorem j_rYears : VCA b96 6 11 = V_rYears := by kernel_rfl
theorem j_iRow : VCA b97 6 4 = V_iRow := by kernel_rfl
theorem j_cpi : VCA b98 6 8 = V_cpi := by kernel_rfl
theorem j_xAwake : VCA b99 6 9 = V_xAwake := by kernel_rfl
theorem j_yearsL : VCA b100 6 5 = V_yearsL := by kernel_rfl
end Go.Sx.N
