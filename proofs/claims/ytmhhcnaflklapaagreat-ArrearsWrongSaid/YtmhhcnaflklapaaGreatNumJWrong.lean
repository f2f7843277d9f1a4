/-
  The conditions are what the executor says. Conditions: none; printed by a program of our own.
-/
import Derived.Test.YtmhhcnaflklapaaGreatNumT
import Derived.Test.YtmhhcnaflklapaaGreatNumVWrong
import Derived.KernelRfl
namespace Go.Sx.N
open Go.Proofs
theorem j_Wrong : (vc (A := sem Tb) (cfgAt b75) 6 7 ⟨[.agg [(.int .i64, false), (.sl 3, false), (.sl 84, false)], .cell (.int .i64) false], [.cell (.bool) false]⟩).den = V_Wrong := by kernel_rfl
theorem l_Wrong (h : SigOk Tb (cfgAt b75)) (hv : V_Wrong) : ConOK Tryz.prog 7 ⟨[.agg [(.int .i64, false), (.sl 3, false), (.sl 84, false)], .cell (.int .i64) false], [.cell (.bool) false]⟩ (Tb 7) := SigOk.law (l := b75) h j_Wrong hv
end Go.Sx.N
