/-
  The conditions are what the executor says. Conditions: none; printed by a program of our own.
-/
import Derived.Test.YtmhhcnaflklapaaGreatNumT
import Derived.Test.YtmhhcnaflklapaaGreatNumVWGrows
import Derived.KernelRfl
namespace Go.Sx.N
open Go.Proofs
theorem j_WGrows : (vc (A := sem Tb) (cfgAt b75) 6 3 ⟨[.cell (.int .u32) false, .cell (.int .u32) false, .cell (.int .u8) false, .cell (.int .u8) false, .cell (.int .u8) false, .cell (.sl 5) false], [.cell (.bool) false]⟩).den = V_WGrows := by kernel_rfl
theorem l_WGrows (h : SigOk Tb (cfgAt b75)) (hv : V_WGrows) : ConOK Tryz.prog 3 ⟨[.cell (.int .u32) false, .cell (.int .u32) false, .cell (.int .u8) false, .cell (.int .u8) false, .cell (.int .u8) false, .cell (.sl 5) false], [.cell (.bool) false]⟩ (Tb 3) := SigOk.law (l := b75) h j_WGrows hv
end Go.Sx.N
