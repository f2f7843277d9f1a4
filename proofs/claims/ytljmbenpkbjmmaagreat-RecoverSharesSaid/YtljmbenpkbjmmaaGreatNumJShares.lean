/-
  The conditions are what the executor says. Conditions: none; printed by a program of our own.
-/
import Derived.Test.YtljmbenpkbjmmaaGreatNumT
import Derived.Test.YtljmbenpkbjmmaaGreatNumVShares
import Derived.KernelRfl
namespace Go.Sx.N
open Go.Proofs
theorem j_Shares : (vc (A := sem Tb) (cfgAt b112) 6 4 ⟨[.agg [(.int .i64, false), (.sl 3, false), (.sl 55, false)], .cell (.int .i64) false, .cell (.int .i64) false, .cell (.int .u8) false, .cell (.int .u8) false, .cell (.int .u8) false], [.cell (.bool) false]⟩).den = V_Shares := by kernel_rfl
theorem l_Shares (h : SigOk Tb (cfgAt b112)) (hv : V_Shares) : ConOK Tryz.prog 4 ⟨[.agg [(.int .i64, false), (.sl 3, false), (.sl 55, false)], .cell (.int .i64) false, .cell (.int .i64) false, .cell (.int .u8) false, .cell (.int .u8) false, .cell (.int .u8) false], [.cell (.bool) false]⟩ (Tb 4) := SigOk.law (l := b112) h j_Shares hv
end Go.Sx.N
