/-
  The conditions are what the executor says. Conditions: none; printed by a program of our own.
-/
import Derived.Test.YtmhhcnaflklapaaGreatNumT
import Derived.Test.YtmhhcnaflklapaaGreatNumVExact
import Derived.KernelRfl
namespace Go.Sx.N
open Go.Proofs
theorem j_Exact : (vc (A := sem Tb) (cfgAt b75) 6 4 ⟨[.cell (.int .u32) false, .cell (.int .u8) false, .cell (.int .u16) false], [.cell (.bool) false]⟩).den = V_Exact := by kernel_rfl
theorem l_Exact (h : SigOk Tb (cfgAt b75)) (hv : V_Exact) : ConOK Tryz.prog 4 ⟨[.cell (.int .u32) false, .cell (.int .u8) false, .cell (.int .u16) false], [.cell (.bool) false]⟩ (Tb 4) := SigOk.law (l := b75) h j_Exact hv
end Go.Sx.N
