/-
 The conditions are what the executor says. Conditions: none; printed by a program of our own.
-/
import Derived.Test.YtbgbcaamipknmaaGreatNumT
import Derived.Test.YtbgbcaamipknmaaGreatNumVTSmall
import Derived.KernelRfl
namespace Go.Sx.N
open Go.Proofs
theorem j_TSmall : VCA b75 6 3 = V_TSmall := by kernel_rfl
theorem l_TSmall (h : OKA b75) (hv : V_TSmall) : ConOK Tryz.prog 3 ⟨[], [.cell (.bool) false]⟩ (Tb 3) := lwA h j_TSmall hv
end Go.Sx.N
