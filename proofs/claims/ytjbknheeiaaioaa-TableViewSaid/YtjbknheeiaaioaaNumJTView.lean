/-
  The conditions are what the executor says. Conditions: none; printed by a program of our own.
-/
import Derived.Test.YtjbknheeiaaioaaNumT
import Derived.Test.YtjbknheeiaaioaaNumVTView
import Derived.KernelRfl
namespace Go.Sx.N
open Go.Proofs
theorem j_TView : VCA b52 6 4 = V_TView := by kernel_rfl
theorem l_TView (h : OKA b52) (hv : V_TView) : ConOK Try.prog 4 ⟨[.cell (.sl 52) false, .cell (.bool) false, .cell (.int .i64) false, .cell (.int .i64) false, .cell (.int .i64) false], [.cell (.bool) false]⟩ (Tb 4) := lwA h j_TView hv
end Go.Sx.N
