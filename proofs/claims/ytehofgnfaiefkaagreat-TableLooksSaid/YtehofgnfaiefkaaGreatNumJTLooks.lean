/-
  The conditions are what the executor says. Conditions: none; printed by a program of our own.
-/
import Derived.Test.YtehofgnfaiefkaaGreatNumT
import Derived.Test.YtehofgnfaiefkaaGreatNumVTLooks
import Derived.KernelRfl
namespace Go.Sx.N
open Go.Proofs
theorem j_TLooks : VCA b68 6 3 = V_TLooks := by kernel_rfl
theorem l_TLooks (h : OKA b68) (hv : V_TLooks) : ConOK Tryz.prog 3 ⟨[.agg [(.str, false), (.bool, false), (.sl 34, false)], .cell (.int .i64) false, .cell (.int .i64) false, .cell (.int .i64) false], [.cell (.bool) false]⟩ (Tb 3) := lwA h j_TLooks hv
end Go.Sx.N
