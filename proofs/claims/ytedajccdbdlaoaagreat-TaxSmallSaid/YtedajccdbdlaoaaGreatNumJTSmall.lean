/-
  The conditions are what the executor says. Conditions: none; printed by a program of our own.
-/
import Derived.Test.YtedajccdbdlaoaaGreatNumT
import Derived.Test.YtedajccdbdlaoaaGreatNumVTSmall
import Derived.KernelRfl
namespace Go.Sx.N
open Go.Proofs
theorem j_TSmall : (vc (A := sem Tb) (cfgAt b118) 6 5 ⟨[], [.cell (.bool) false]⟩).den = V_TSmall := by kernel_rfl
theorem l_TSmall (h : SigOk Tb (cfgAt b118)) (hv : V_TSmall) : ConOK Tryz.prog 5 ⟨[], [.cell (.bool) false]⟩ (Tb 5) := SigOk.law (l := b118) h j_TSmall hv
end Go.Sx.N
