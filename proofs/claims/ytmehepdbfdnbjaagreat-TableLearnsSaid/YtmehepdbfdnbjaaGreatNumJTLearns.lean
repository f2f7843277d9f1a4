/-
 The conditions are what the executor says. Conditions: none; printed by a program of our own.
-/
import Derived.Test.YtmehepdbfdnbjaaGreatNumT
import Derived.Test.YtmehepdbfdnbjaaGreatNumVTLearns
import Derived.KernelRfl
namespace Go.Sx.N
open Go.Proofs
theorem j_TLearns : VCA b70 6 5 = V_TLearns := by kernel_rfl
theorem l_TLearns (h : OKA b70) (hv : V_TLearns) : ConOK Tryz.prog 5 ⟨[.agg [(.str, false), (.bool, false), (.sl 35, false)], .agg [(.int .i64, false), (.int .i64, false), (.int .i64, false), (.bool, false), (.sl 112, false), (.bool, false), (.sl 112, false)]], [.cell (.bool) false]⟩ (Tb 5) := lwA h j_TLearns hv
end Go.Sx.N
