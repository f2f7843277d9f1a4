/-
  The conditions are what the executor says. Conditions: none; printed by a program of our own.
-/
import Derived.Test.YtljmbenpkbjmmaaGreatNumT
import Derived.Test.YtljmbenpkbjmmaaGreatNumVLater
import Derived.KernelRfl
namespace Go.Sx.N
open Go.Proofs
theorem j_Later : (vc (A := sem Tb) (cfgAt b112) 6 8 ⟨[.agg [(.int .i64, false), (.sl 3, false), (.sl 55, false)], .cell (.int .i64) false, .cell (.int .i64) false], [.cell (.bool) false]⟩).den = V_Later := by kernel_rfl
theorem l_Later (h : SigOk Tb (cfgAt b112)) (hv : V_Later) : ConOK Tryz.prog 8 ⟨[.agg [(.int .i64, false), (.sl 3, false), (.sl 55, false)], .cell (.int .i64) false, .cell (.int .i64) false], [.cell (.bool) false]⟩ (Tb 8) := SigOk.law (l := b112) h j_Later hv
end Go.Sx.N
