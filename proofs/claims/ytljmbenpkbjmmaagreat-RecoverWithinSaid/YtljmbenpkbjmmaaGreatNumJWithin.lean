/-
  The conditions are what the executor says. Conditions: none; printed by a program of our own.
-/
import Derived.Test.YtljmbenpkbjmmaaGreatNumT
import Derived.Test.YtljmbenpkbjmmaaGreatNumVWithin
import Derived.KernelRfl
namespace Go.Sx.N
open Go.Proofs
theorem j_Within : (vc (A := sem Tb) (cfgAt b112) 6 9 ⟨[.agg [(.int .i64, false), (.sl 3, false), (.sl 55, false)], .cell (.int .i64) false, .cell (.int .i64) false, .cell (.int .u8) false, .cell (.int .u8) false], [.cell (.bool) false]⟩).den = V_Within := by kernel_rfl
theorem l_Within (h : SigOk Tb (cfgAt b112)) (hv : V_Within) : ConOK Tryz.prog 9 ⟨[.agg [(.int .i64, false), (.sl 3, false), (.sl 55, false)], .cell (.int .i64) false, .cell (.int .i64) false, .cell (.int .u8) false, .cell (.int .u8) false], [.cell (.bool) false]⟩ (Tb 9) := SigOk.law (l := b112) h j_Within hv
end Go.Sx.N
