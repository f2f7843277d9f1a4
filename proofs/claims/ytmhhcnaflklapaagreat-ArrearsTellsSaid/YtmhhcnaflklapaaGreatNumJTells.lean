/-
 The conditions are what the executor says. Conditions: none; printed by a program of our own.
-/
import Derived.Test.YtmhhcnaflklapaaGreatNumT
import Derived.Test.YtmhhcnaflklapaaGreatNumVTells
import Derived.KernelRfl
namespace Go.Sx.N
open Go.Proofs
theorem j_Tells : VCA b136 6 8 = V_Tells := by kernel_rfl
theorem l_Tells (h : OKA b136) (hv : V_Tells) : ConOK Tryz.prog 8 ⟨[.agg [(.int .i64, false), (.sl 3, false), (.sl 84, false)], .cell (.int .i64) false, .cell (.int .i64) false, .cell (.int .i64) false, .cell (.int .i64) false, .agg [(.str, false), (.bool, false), (.sl 41, false)], .cell (.int .i64) false], [.cell (.bool) false]⟩ (Tb 8) := lwA h j_Tells hv
end Go.Sx.N
