/-
  The conditions are what the executor says. Conditions: none; printed by a program of our own.
-/
import Derived.Test.YtedajccdbdlaoaaGreatNumT
import Derived.Test.YtedajccdbdlaoaaGreatNumVTells
import Derived.KernelRfl
namespace Go.Sx.N
open Go.Proofs
theorem j_Tells : (vc (A := sem Tb) (cfgAt b118) 6 3 ⟨[.cell (.sl 42) false, .cell (.int .i64) false, .cell (.int .i64) false], [.cell (.bool) false]⟩).den = V_Tells := by kernel_rfl
theorem l_Tells (h : SigOk Tb (cfgAt b118)) (hv : V_Tells) : ConOK Tryz.prog 3 ⟨[.cell (.sl 42) false, .cell (.int .i64) false, .cell (.int .i64) false], [.cell (.bool) false]⟩ (Tb 3) := SigOk.law (l := b118) h j_Tells hv
end Go.Sx.N
