/-
 The conditions are what the executor says. Conditions: none; printed by a program of our own.
-/
import Derived.Test.YtccbjhfdfbaekaaGreatNumT
import Derived.Test.YtccbjhfdfbaekaaGreatNumVROnce
import Derived.KernelRfl
namespace Go.Sx.N
open Go.Proofs
theorem j_ROnce : VCA b102 6 5 = V_ROnce := by kernel_rfl
theorem l_ROnce (h : OKA b102) (hv : V_ROnce) : ConOK Tryz.prog 5 ⟨[.agg [(.int .i64, false), (.sl 3, false), (.sl 74, false), (.int .i64, false), (.int .i64, false), (.int .i64, false), (.sl 36, false)], .cell (.sl 87) false, .cell (.int .i64) false, .cell (.int .i64) false, .agg [(.int .i64, false), (.int .i64, false), (.bool, false), (.sl 22, false), (.bool, false), (.sl 22, false), (.str, false), (.bool, false), (.sl 112, false), (.sl 120, false), (.int .i64, false)], .cell (.int .u8) false], [.cell (.bool) false]⟩ (Tb 5) := lwA h j_ROnce hv
end Go.Sx.N
