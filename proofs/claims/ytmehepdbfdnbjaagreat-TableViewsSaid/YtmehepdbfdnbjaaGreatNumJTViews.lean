/-
 The conditions are what the executor says. Conditions: none; printed by a program of our own.
-/
import Derived.Test.YtmehepdbfdnbjaaGreatNumT
import Derived.Test.YtmehepdbfdnbjaaGreatNumVTViews
import Derived.KernelRfl
namespace Go.Sx.N
open Go.Proofs
theorem j_TViews : VCA b68 6 4 = V_TViews := by kernel_rfl
theorem l_TViews (h : OKA b68) (hv : V_TViews) : ConOK Tryz.prog 4 ⟨[.agg [(.str, false), (.bool, false), (.sl 35, false)], .cell (.int .i64) false], [.cell (.bool) false]⟩ (Tb 4) := lwA h j_TViews hv
end Go.Sx.N
