/-
  The conditions are what the executor says. Conditions: none; printed by a program of our own.
-/
import Derived.Test.YtedajccdbdlaoaaGreatNumT
import Derived.Test.YtedajccdbdlaoaaGreatNumVAnew
import Derived.KernelRfl
namespace Go.Sx.N
open Go.Proofs
theorem j_Anew : (vc (A := sem Tb) (cfgAt b118) 6 8 ⟨[.agg [(.sl 42, false), (.sl 42, false)], .agg [(.int .i64, false), (.int .i64, false), (.int .i64, false)], .agg [(.int .i64, false), (.int .i64, false)]], [.cell (.bool) false]⟩).den = V_Anew := by kernel_rfl
theorem l_Anew (h : SigOk Tb (cfgAt b118)) (hv : V_Anew) : ConOK Tryz.prog 8 ⟨[.agg [(.sl 42, false), (.sl 42, false)], .agg [(.int .i64, false), (.int .i64, false), (.int .i64, false)], .agg [(.int .i64, false), (.int .i64, false)]], [.cell (.bool) false]⟩ (Tb 8) := SigOk.law (l := b118) h j_Anew hv
end Go.Sx.N
