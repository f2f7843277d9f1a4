/-
  The conditions are what the executor says. Conditions: none; printed by a program of our own.
-/
import Derived.Test.YtmhhcnaflklapaaGreatNumT
import Derived.Test.YtmhhcnaflklapaaGreatNumVKnown
import Derived.KernelRfl
namespace Go.Sx.N
open Go.Proofs
theorem j_Known : (vc (A := sem Tb) (cfgAt b75) 6 5 ⟨[.cell (.int .u32) false, .cell (.int .u8) false, .cell (.int .u8) false, .cell (.sl 5) false, .cell (.int .u16) false], [.cell (.bool) false]⟩).den = V_Known := by kernel_rfl
theorem l_Known (h : SigOk Tb (cfgAt b75)) (hv : V_Known) : ConOK Tryz.prog 5 ⟨[.cell (.int .u32) false, .cell (.int .u8) false, .cell (.int .u8) false, .cell (.sl 5) false, .cell (.int .u16) false], [.cell (.bool) false]⟩ (Tb 5) := SigOk.law (l := b75) h j_Known hv
end Go.Sx.N
