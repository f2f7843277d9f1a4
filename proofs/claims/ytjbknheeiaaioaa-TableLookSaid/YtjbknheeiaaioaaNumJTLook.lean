/-
  The conditions are what the executor says. Conditions: none; printed by a program of our own.
-/
import Derived.Test.YtjbknheeiaaioaaNumT
import Derived.Test.YtjbknheeiaaioaaNumVTLook
import Derived.KernelRfl
namespace Go.Sx.N
open Go.Proofs
theorem j_TLook : VCA b52 6 3 = V_TLook := by kernel_rfl
theorem l_TLook (h : OKA b52) (hv : V_TLook) : ConOK Try.prog 3 ⟨[.cell (.sl 52) false, .cell (.int .i64) false, .cell (.int .i64) false, .cell (.int .i64) false], [.cell (.bool) false]⟩ (Tb 3) := lwA h j_TLook hv
end Go.Sx.N
