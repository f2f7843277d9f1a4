/-
  The conditions are what the executor says. Conditions: none; printed by a program of our own.
-/
import Derived.Test.YtdhjdigfoohofaaLedT
import Derived.Test.YtdhjdigfoohofaaLedVChanges
import Derived.KernelRfl
namespace Go.Sx.N
open Go.Proofs
theorem j_Changes : (vc (A := sem Tb) (cfgAt b21) 6 3 ⟨[.agg [(.int .i64, false), (.sl 3, false), (.sl 40, false)], .cell (.sl 40) false, .cell (.int .i64) false, .cell (.int .i64) false], [.cell (.bool) false]⟩).den = V_Changes := by kernel_rfl
theorem l_Changes (h : SigOk Tb (cfgAt b21)) (hv : V_Changes) : ConOK Try.prog 3 ⟨[.agg [(.int .i64, false), (.sl 3, false), (.sl 40, false)], .cell (.sl 40) false, .cell (.int .i64) false, .cell (.int .i64) false], [.cell (.bool) false]⟩ (Tb 3) := SigOk.law (l := b21) h j_Changes hv
end Go.Sx.N
