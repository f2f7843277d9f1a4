/-
  The conditions are what the executor says. Conditions: none; printed by a program of our own.
-/
import Derived.Test.YtedajccdbdlaoaaGreatNumT
import Derived.Test.YtedajccdbdlaoaaGreatNumVEven
import Derived.KernelRfl
namespace Go.Sx.N
open Go.Proofs
theorem j_Even : (vc (A := sem Tb) (cfgAt b118) 6 6 ⟨[.cell (.sl 42) false, .cell (.int .i64) false], [.cell (.bool) false]⟩).den = V_Even := by kernel_rfl
theorem l_Even (h : SigOk Tb (cfgAt b118)) (hv : V_Even) : ConOK Tryz.prog 6 ⟨[.cell (.sl 42) false, .cell (.int .i64) false], [.cell (.bool) false]⟩ (Tb 6) := SigOk.law (l := b118) h j_Even hv
end Go.Sx.N
