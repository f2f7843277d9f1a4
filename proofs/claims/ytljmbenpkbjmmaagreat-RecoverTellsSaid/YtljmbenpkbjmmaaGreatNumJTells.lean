/-
  The conditions are what the executor says. Conditions: none; printed by a program of our own.
-/
import Derived.Test.YtljmbenpkbjmmaaGreatNumT
import Derived.Test.YtljmbenpkbjmmaaGreatNumVTells
import Derived.KernelRfl
namespace Go.Sx.N
open Go.Proofs
theorem j_Tells : (vc (A := sem Tb) (cfgAt b112) 6 3 ⟨[.agg [(.int .i64, false), (.sl 3, false), (.sl 55, false)], .cell (.int .i64) false, .cell (.int .i64) false, .agg [(.bool, false), (.sl 97, false), (.bool, false), (.sl 97, false)]], [.cell (.bool) false]⟩).den = V_Tells := by kernel_rfl
theorem l_Tells (h : SigOk Tb (cfgAt b112)) (hv : V_Tells) : ConOK Tryz.prog 3 ⟨[.agg [(.int .i64, false), (.sl 3, false), (.sl 55, false)], .cell (.int .i64) false, .cell (.int .i64) false, .agg [(.bool, false), (.sl 97, false), (.bool, false), (.sl 97, false)]], [.cell (.bool) false]⟩ (Tb 3) := SigOk.law (l := b112) h j_Tells hv
end Go.Sx.N
