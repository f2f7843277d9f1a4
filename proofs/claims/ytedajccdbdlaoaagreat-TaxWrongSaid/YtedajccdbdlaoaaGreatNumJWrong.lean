/-
  The conditions are what the executor says. Conditions: none; printed by a program of our own.
-/
import Derived.Test.YtedajccdbdlaoaaGreatNumT
import Derived.Test.YtedajccdbdlaoaaGreatNumVWrong
import Derived.KernelRfl
namespace Go.Sx.N
open Go.Proofs
theorem j_Wrong : (vc (A := sem Tb) (cfgAt b118) 6 13 ⟨[.cell (.sl 42) false, .cell (.int .u8) false, .cell (.int .i64) false], [.cell (.bool) false]⟩).den = V_Wrong := by kernel_rfl
theorem l_Wrong (h : SigOk Tb (cfgAt b118)) (hv : V_Wrong) : ConOK Tryz.prog 13 ⟨[.cell (.sl 42) false, .cell (.int .u8) false, .cell (.int .i64) false], [.cell (.bool) false]⟩ (Tb 13) := SigOk.law (l := b118) h j_Wrong hv
end Go.Sx.N
