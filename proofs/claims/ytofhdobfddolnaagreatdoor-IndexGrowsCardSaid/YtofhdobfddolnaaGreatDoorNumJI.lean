/-
 The conditions are what the executor says. Conditions: none; printed by a program of our own.
-/
import Derived.Test.YtofhdobfddolnaaGreatDoorNumT
import Derived.Test.YtofhdobfddolnaaGreatDoorNumVI
import Derived.KernelRfl
namespace Go.Sx.N
open Go.Proofs
theorem j_kSameInts : VCA b93 6 25 = V_kSameInts := by kernel_rfl
theorem j_rLeap3 : VCA b94 6 122 = V_rLeap3 := by kernel_rfl
theorem j_rLen3 : VCA b95 6 121 = V_rLen3 := by kernel_rfl
theorem j_rDay : VCA b96 6 79 = V_rDay := by kernel_rfl
theorem j_rYears : VCA b97 6 41 = V_rYears := by kernel_rfl
theorem j_iRow : VCA b98 6 24 = V_iRow := by kernel_rfl
theorem j_cpi : VCA b99 6 22 = V_cpi := by kernel_rfl
theorem j_xAwake : VCA b100 6 7 = V_xAwake := by kernel_rfl
end Go.Sx.N
