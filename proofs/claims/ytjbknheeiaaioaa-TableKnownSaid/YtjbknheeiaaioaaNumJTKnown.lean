/-
  The conditions are what the executor says. Conditions: none; printed by a program of our own.
-/
import Derived.Test.YtjbknheeiaaioaaNumT
import Derived.Test.YtjbknheeiaaioaaNumVTKnown
import Derived.KernelRfl
namespace Go.Sx.N
open Go.Proofs
theorem j_TKnown : VCA b52 6 5 = V_TKnown := by kernel_rfl
theorem l_TKnown (h : OKA b52) (hv : V_TKnown) : ConOK Try.prog 5 ⟨[.cell (.sl 52) false, .agg [(.int .u8, false), (.int .u8, false), (.int .u8, false), (.int .u16, false)], .cell (.int .i64) false, .cell (.int .i64) false], [.cell (.bool) false]⟩ (Tb 5) := lwA h j_TKnown hv
end Go.Sx.N
