/-
  The conditions are what the executor says. Conditions: none; printed by a program of our own.
-/
import Derived.Test.YtjljnieafhdkgaaGreatDoorNumT
import Derived.Test.YtjljnieafhdkgaaGreatDoorNumVWYears
import Derived.KernelRfl
namespace Go.Sx.N
open Go.Proofs
theorem j_WYears : (vc (A := sem Tb) (cfgAt b82) 6 3 ⟨[.cell (.int .i64) false, .cell (.int .i64) false], [.cell (.bool) false]⟩).den = V_WYears := by kernel_rfl
theorem l_WYears (h : SigOk Tb (cfgAt b82)) (hv : V_WYears) : ConOK Tryz.prog 3 ⟨[.cell (.int .i64) false, .cell (.int .i64) false], [.cell (.bool) false]⟩ (Tb 3) := SigOk.law (l := b82) h j_WYears hv
end Go.Sx.N
