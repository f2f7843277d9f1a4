/-
  The conditions are what the executor says. Conditions: none; printed by a program of our own.
-/
import Derived.Test.YtmhhcnaflklapaaGreatNumT
import Derived.Test.YtmhhcnaflklapaaGreatNumVSettles
import Derived.KernelRfl
namespace Go.Sx.N
open Go.Proofs
theorem j_Settles : (vc (A := sem Tb) (cfgAt b84) 6 9 ⟨[.agg [(.int .i64, false), (.sl 3, false), (.sl 84, false)], .cell (.int .i64) false, .cell (.int .i64) false, .cell (.sl 5) false], [.cell (.bool) false]⟩).den = V_Settles := by kernel_rfl
theorem l_Settles (h : SigOk Tb (cfgAt b84)) (hv : V_Settles) : ConOK Tryz.prog 9 ⟨[.agg [(.int .i64, false), (.sl 3, false), (.sl 84, false)], .cell (.int .i64) false, .cell (.int .i64) false, .cell (.sl 5) false], [.cell (.bool) false]⟩ (Tb 9) := SigOk.law (l := b84) h j_Settles hv
end Go.Sx.N
