/-
  The conditions are what the executor says. Conditions: none; printed by a program of our own.
-/
import Derived.Test.YtmhhcnaflklapaaGreatNumT
import Derived.Test.YtmhhcnaflklapaaGreatNumVSplits
import Derived.KernelRfl
namespace Go.Sx.N
open Go.Proofs
theorem j_Splits : (vc (A := sem Tb) (cfgAt b75) 6 6 ⟨[.cell (.int .u32) false, .cell (.int .u32) false, .cell (.int .u8) false, .cell (.int .u8) false, .cell (.int .u8) false, .cell (.sl 5) false], [.cell (.bool) false]⟩).den = V_Splits := by kernel_rfl
theorem l_Splits (h : SigOk Tb (cfgAt b75)) (hv : V_Splits) : ConOK Tryz.prog 6 ⟨[.cell (.int .u32) false, .cell (.int .u32) false, .cell (.int .u8) false, .cell (.int .u8) false, .cell (.int .u8) false, .cell (.sl 5) false], [.cell (.bool) false]⟩ (Tb 6) := SigOk.law (l := b75) h j_Splits hv
end Go.Sx.N
