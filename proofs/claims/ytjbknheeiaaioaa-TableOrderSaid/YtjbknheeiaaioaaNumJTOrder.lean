/-
  The conditions are what the executor says. Conditions: none; printed by a program of our own.
-/
import Derived.Test.YtjbknheeiaaioaaNumT
import Derived.Test.YtjbknheeiaaioaaNumVTOrder
import Derived.KernelRfl
namespace Go.Sx.N
open Go.Proofs
theorem j_TOrder : VCA b52 6 6 = V_TOrder := by kernel_rfl
theorem l_TOrder (h : OKA b52) (hv : V_TOrder) : ConOK Try.prog 6 ⟨[.cell (.sl 52) false, .cell (.bool) false], [.cell (.bool) false]⟩ (Tb 6) := lwA h j_TOrder hv
end Go.Sx.N
