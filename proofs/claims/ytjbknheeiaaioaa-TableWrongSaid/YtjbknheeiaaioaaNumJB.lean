/-
  The conditions are what the executor says. Conditions: none; printed by a program of our own.
-/
import Derived.Test.YtjbknheeiaaioaaNumT
import Derived.Test.YtjbknheeiaaioaaNumVB
import Derived.KernelRfl
namespace Go.Sx.N
open Go.Proofs
theorem j_Clone16 : VCA b19 6 49 = V_Clone16 := by kernel_rfl
theorem j_wValid : VCA b20 6 61 = V_wValid := by kernel_rfl
theorem j_wAllValid : VCA b21 6 67 = V_wAllValid := by kernel_rfl
theorem j_wGcd : VCA b22 6 66 = V_wGcd := by kernel_rfl
end Go.Sx.N
