/-
  The conditions are what the executor says. Conditions: none; printed by a program of our own.
-/
import Derived.Test.YtedajccdbdlaoaaGreatNumT
import Derived.Test.YtedajccdbdlaoaaGreatNumVGrows
import Derived.KernelRfl
namespace Go.Sx.N
open Go.Proofs
theorem j_Grows : (vc (A := sem Tb) (cfgAt b118) 6 7 ⟨[.cell (.sl 42) false, .agg [(.int .i64, false), (.int .i64, false)], .agg [(.int .u8, false), (.int .u8, false)]], [.cell (.bool) false]⟩).den = V_Grows := by kernel_rfl
theorem l_Grows (h : SigOk Tb (cfgAt b118)) (hv : V_Grows) : ConOK Tryz.prog 7 ⟨[.cell (.sl 42) false, .agg [(.int .i64, false), (.int .i64, false)], .agg [(.int .u8, false), (.int .u8, false)]], [.cell (.bool) false]⟩ (Tb 7) := SigOk.law (l := b118) h j_Grows hv
end Go.Sx.N
