/-
  The conditions are what the executor says. Conditions: none; printed by a program of our own.
-/
import Derived.Test.YtljmbenpkbjmmaaGreatNumT
import Derived.Test.YtljmbenpkbjmmaaGreatNumVWrong
import Derived.KernelRfl
namespace Go.Sx.N
open Go.Proofs
theorem j_Wrong : (vc (A := sem Tb) (cfgAt b112) 6 5 ⟨[.agg [(.int .i64, false), (.sl 3, false), (.sl 55, false)], .cell (.int .i64) false], [.cell (.bool) false]⟩).den = V_Wrong := by kernel_rfl
theorem l_Wrong (h : SigOk Tb (cfgAt b112)) (hv : V_Wrong) : ConOK Tryz.prog 5 ⟨[.agg [(.int .i64, false), (.sl 3, false), (.sl 55, false)], .cell (.int .i64) false], [.cell (.bool) false]⟩ (Tb 5) := SigOk.law (l := b112) h j_Wrong hv
end Go.Sx.N
