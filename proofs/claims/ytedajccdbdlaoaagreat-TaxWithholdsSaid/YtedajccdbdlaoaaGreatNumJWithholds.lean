/-
  The conditions are what the executor says. Conditions: none; printed by a program of our own.
-/
import Derived.Test.YtedajccdbdlaoaaGreatNumT
import Derived.Test.YtedajccdbdlaoaaGreatNumVWithholds
import Derived.KernelRfl
namespace Go.Sx.N
open Go.Proofs
theorem j_Withholds : (vc (A := sem Tb) (cfgAt b118) 6 4 ⟨[.cell (.sl 48) false, .agg [(.int .i64, false), (.int .i64, false), (.int .i64, false)], .cell (.sl 50) false], [.cell (.bool) false]⟩).den = V_Withholds := by kernel_rfl
theorem l_Withholds (h : SigOk Tb (cfgAt b118)) (hv : V_Withholds) : ConOK Tryz.prog 4 ⟨[.cell (.sl 48) false, .agg [(.int .i64, false), (.int .i64, false), (.int .i64, false)], .cell (.sl 50) false], [.cell (.bool) false]⟩ (Tb 4) := SigOk.law (l := b118) h j_Withholds hv
end Go.Sx.N
