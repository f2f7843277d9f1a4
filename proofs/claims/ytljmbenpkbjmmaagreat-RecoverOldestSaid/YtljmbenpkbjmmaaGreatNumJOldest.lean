/-
  The conditions are what the executor says. Conditions: none; printed by a program of our own.
-/
import Derived.Test.YtljmbenpkbjmmaaGreatNumT
import Derived.Test.YtljmbenpkbjmmaaGreatNumVOldest
import Derived.KernelRfl
namespace Go.Sx.N
open Go.Proofs
theorem j_Oldest : (vc (A := sem Tb) (cfgAt b112) 6 6 ⟨[.agg [(.int .i64, false), (.sl 3, false), (.sl 55, false)], .cell (.int .i64) false, .cell (.int .i64) false, .cell (.int .u8) false, .cell (.int .u8) false], [.cell (.bool) false]⟩).den = V_Oldest := by kernel_rfl
theorem l_Oldest (h : SigOk Tb (cfgAt b112)) (hv : V_Oldest) : ConOK Tryz.prog 6 ⟨[.agg [(.int .i64, false), (.sl 3, false), (.sl 55, false)], .cell (.int .i64) false, .cell (.int .i64) false, .cell (.int .u8) false, .cell (.int .u8) false], [.cell (.bool) false]⟩ (Tb 6) := SigOk.law (l := b112) h j_Oldest hv
end Go.Sx.N
