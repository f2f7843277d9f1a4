/-
  The conditions are what the executor says. Conditions: none; printed by a program of our own.
-/
import Derived.Test.YtedajccdbdlaoaaGreatNumT
import Derived.Test.YtedajccdbdlaoaaGreatNumVSplit
import Derived.KernelRfl
namespace Go.Sx.N
open Go.Proofs
theorem j_Split : (vc (A := sem Tb) (cfgAt b118) 6 11 ⟨[.cell (.sl 42) false, .agg [(.int .i64, false), (.int .i64, false), (.int .i64, false)], .cell (.int .u8) false], [.cell (.bool) false]⟩).den = V_Split := by kernel_rfl
theorem l_Split (h : SigOk Tb (cfgAt b118)) (hv : V_Split) : ConOK Tryz.prog 11 ⟨[.cell (.sl 42) false, .agg [(.int .i64, false), (.int .i64, false), (.int .i64, false)], .cell (.int .u8) false], [.cell (.bool) false]⟩ (Tb 11) := SigOk.law (l := b118) h j_Split hv
end Go.Sx.N
