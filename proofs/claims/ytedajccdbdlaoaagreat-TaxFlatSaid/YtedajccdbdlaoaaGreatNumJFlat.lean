/-
  The conditions are what the executor says. Conditions: none; printed by a program of our own.
-/
import Derived.Test.YtedajccdbdlaoaaGreatNumT
import Derived.Test.YtedajccdbdlaoaaGreatNumVFlat
import Derived.KernelRfl
namespace Go.Sx.N
open Go.Proofs
theorem j_Flat : (vc (A := sem Tb) (cfgAt b118) 6 10 ⟨[.agg [(.int .u32, false), (.int .u32, false)], .agg [(.int .i64, false), (.int .i64, false)], .cell (.int .u8) false], [.cell (.bool) false]⟩).den = V_Flat := by kernel_rfl
theorem l_Flat (h : SigOk Tb (cfgAt b118)) (hv : V_Flat) : ConOK Tryz.prog 10 ⟨[.agg [(.int .u32, false), (.int .u32, false)], .agg [(.int .i64, false), (.int .i64, false)], .cell (.int .u8) false], [.cell (.bool) false]⟩ (Tb 10) := SigOk.law (l := b118) h j_Flat hv
end Go.Sx.N
