/-
  The conditions are what the executor says. Conditions: none; printed by a program of our own.
-/
import Derived.Test.YtljmbenpkbjmmaaGreatNumT
import Derived.Test.YtljmbenpkbjmmaaGreatNumVWRuns
import Derived.KernelRfl
namespace Go.Sx.N
open Go.Proofs
theorem j_WRuns : (vc (A := sem Tb) (cfgAt b112) 6 7 ⟨[.agg [(.int .i64, false), (.sl 3, false), (.sl 55, false)], .cell (.int .i64) false, .cell (.int .u8) false, .cell (.int .u8) false], [.cell (.bool) false]⟩).den = V_WRuns := by kernel_rfl
theorem l_WRuns (h : SigOk Tb (cfgAt b112)) (hv : V_WRuns) : ConOK Tryz.prog 7 ⟨[.agg [(.int .i64, false), (.sl 3, false), (.sl 55, false)], .cell (.int .i64) false, .cell (.int .u8) false, .cell (.int .u8) false], [.cell (.bool) false]⟩ (Tb 7) := SigOk.law (l := b112) h j_WRuns hv
end Go.Sx.N
