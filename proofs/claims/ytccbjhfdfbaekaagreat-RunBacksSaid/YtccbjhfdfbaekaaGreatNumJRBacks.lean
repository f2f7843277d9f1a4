/-
 The conditions are what the executor says. Conditions: none; printed by a program of our own.
-/
import Derived.Test.YtccbjhfdfbaekaaGreatNumT
import Derived.Test.YtccbjhfdfbaekaaGreatNumVRBacks
import Derived.KernelRfl
namespace Go.Sx.N
open Go.Proofs
theorem aer : aC I9 6 4 = Kt := by kernel_rfl
theorem abj (h : aB I9) (hv : Kt) : yF Tryz.prog 4 ⟨[.agg [(.int .i64, false), (.sl 3, false), (.sl 74, false), (.int .i64, false), (.int .i64, false), (.int .i64, false), (.sl 36, false)], .cell (.int .i64) false, .cell (.int .i64) false], [.cell (.bool) false]⟩ (Tb 4) := lwA h aer hv
end Go.Sx.N
