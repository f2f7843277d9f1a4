/-
  The conditions are what the executor says. Conditions: none; printed by a program of our own.
-/
import Derived.Test.YtjljnieafhdkgaaGreatDoorNumT
import Derived.Test.YtjljnieafhdkgaaGreatDoorNumVWAdds
import Derived.KernelRfl
namespace Go.Sx.N
open Go.Proofs
theorem j_WAdds : (vc (A := sem Tb) (cfgAt b82) 6 5 ⟨[.cell (.sl 52) false, .cell (.int .i64) false, .cell (.int .i64) false, .cell (.int .i64) false, .cell (.int .i64) false], [.cell (.bool) false]⟩).den = V_WAdds := by kernel_rfl
theorem l_WAdds (h : SigOk Tb (cfgAt b82)) (hv : V_WAdds) : ConOK Tryz.prog 5 ⟨[.cell (.sl 52) false, .cell (.int .i64) false, .cell (.int .i64) false, .cell (.int .i64) false, .cell (.int .i64) false], [.cell (.bool) false]⟩ (Tb 5) := SigOk.law (l := b82) h j_WAdds hv
end Go.Sx.N
