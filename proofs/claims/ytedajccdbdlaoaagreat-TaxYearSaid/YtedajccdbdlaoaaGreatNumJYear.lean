/-
  The conditions are what the executor says. Conditions: none; printed by a program of our own.
-/
import Derived.Test.YtedajccdbdlaoaaGreatNumT
import Derived.Test.YtedajccdbdlaoaaGreatNumVYear
import Derived.KernelRfl
namespace Go.Sx.N
open Go.Proofs
theorem j_Year : (vc (A := sem Tb) (cfgAt b118) 6 9 ⟨[.cell (.sl 42) false, .cell (.int .u8) false, .cell (.sl 50) false], [.cell (.bool) false]⟩).den = V_Year := by kernel_rfl
theorem l_Year (h : SigOk Tb (cfgAt b118)) (hv : V_Year) : ConOK Tryz.prog 9 ⟨[.cell (.sl 42) false, .cell (.int .u8) false, .cell (.sl 50) false], [.cell (.bool) false]⟩ (Tb 9) := SigOk.law (l := b118) h j_Year hv
end Go.Sx.N
