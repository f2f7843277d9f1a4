/-
  The conditions are what the executor says. Conditions: none; printed by a program of our own.
-/
import Derived.Test.YtjbknheeiaaioaaNumT
import Derived.Test.YtjbknheeiaaioaaNumVTView
import Derived.KernelRfl
namespace Go.Sx.N
open Go.Proofs
theorem j_TView : (vc (A := sem Tb) (cfgAt b51) 6 4 ⟨[.cell (.sl 52) false, .cell (.bool) false, .cell (.int .i64) false, .cell (.int .i64) false, .cell (.int .i64) false], [.cell (.bool) false]⟩).den = V_TView := by kernel_rfl
theorem l_TView (h : SigOk Tb (cfgAt b51)) (hv : V_TView) : ConOK Try.prog 4 ⟨[.cell (.sl 52) false, .cell (.bool) false, .cell (.int .i64) false, .cell (.int .i64) false, .cell (.int .i64) false], [.cell (.bool) false]⟩ (Tb 4) := SigOk.law (l := b51) h j_TView hv
end Go.Sx.N
