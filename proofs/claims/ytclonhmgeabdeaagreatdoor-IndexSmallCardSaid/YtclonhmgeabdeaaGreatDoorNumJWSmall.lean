/-
 The conditions are what the executor says. Conditions: none; printed by a program of our own.
-/
import Derived.Test.YtclonhmgeabdeaaGreatDoorNumT
import Derived.Test.YtclonhmgeabdeaaGreatDoorNumVWSmall
import Derived.KernelRfl
namespace Go.Sx.N
open Go.Proofs
theorem j_WSmall : VCA b121 6 3 = V_WSmall := by kernel_rfl
theorem l_WSmall (h : OKA b121) (hv : V_WSmall) : ConOK Tryz.prog 3 ⟨[], [.cell (.bool) false]⟩ (Tb 3) := lwA h j_WSmall hv
end Go.Sx.N
