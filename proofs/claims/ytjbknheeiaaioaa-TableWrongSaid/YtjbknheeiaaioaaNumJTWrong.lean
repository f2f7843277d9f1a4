/-
  The conditions are what the executor says. Conditions: none; printed by a program of our own.
-/
import Derived.Test.YtjbknheeiaaioaaNumT
import Derived.Test.YtjbknheeiaaioaaNumVTWrong
import Derived.KernelRfl
namespace Go.Sx.N
open Go.Proofs
theorem j_TWrong : VCA b52 6 7 = V_TWrong := by kernel_rfl
theorem l_TWrong (h : OKA b52) (hv : V_TWrong) : ConOK Try.prog 7 ⟨[.cell (.sl 52) false, .cell (.int .u8) false, .cell (.bool) false], [.cell (.bool) false]⟩ (Tb 7) := lwA h j_TWrong hv
end Go.Sx.N
