/-
  The conditions are what the executor says. Conditions: none; printed by a program of our own.
-/
import Derived.Test.YtjbknheeiaaioaaNumT
import Derived.Test.YtjbknheeiaaioaaNumVH
import Derived.KernelRfl
namespace Go.Sx.N
open Go.Proofs
theorem j_kSameRow : VCA b42 6 19 = V_kSameRow := by kernel_rfl
theorem j_kSameRows : VCA b43 6 38 = V_kSameRows := by kernel_rfl
theorem j_kSameTable : VCA b44 6 17 = V_kSameTable := by kernel_rfl
theorem j_Pool : VCA b45 6 39 = V_Pool := by kernel_rfl
theorem j_tRow : VCA b46 6 24 = V_tRow := by kernel_rfl
theorem j_tOf : VCA b47 6 20 = V_tOf := by kernel_rfl
theorem j_tLess : VCA b48 6 18 = V_tLess := by kernel_rfl
theorem j_Built : VCA b49 6 9 = V_Built := by kernel_rfl
theorem j_holds : VCA b50 6 12 = V_holds := by kernel_rfl
theorem j_awake : VCA b51 6 8 = V_awake := by kernel_rfl
end Go.Sx.N
