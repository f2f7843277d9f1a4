/-
  The conditions are what the executor says. Conditions: none; printed by a program of our own.
-/
import Derived.Test.YtjljnieafhdkgaaGreatDoorNumT
import Derived.Test.YtjljnieafhdkgaaGreatDoorNumVWGrowth
import Derived.KernelRfl
namespace Go.Sx.N
open Go.Proofs
theorem j_WGrowth : (vc (A := sem Tb) (cfgAt b82) 6 4 ⟨[.cell (.sl 52) false, .cell (.int .i64) false, .cell (.int .i64) false, .cell (.int .i64) false], [.cell (.bool) false]⟩).den = V_WGrowth := by kernel_rfl
theorem l_WGrowth (h : SigOk Tb (cfgAt b82)) (hv : V_WGrowth) : ConOK Tryz.prog 4 ⟨[.cell (.sl 52) false, .cell (.int .i64) false, .cell (.int .i64) false, .cell (.int .i64) false], [.cell (.bool) false]⟩ (Tb 4) := SigOk.law (l := b82) h j_WGrowth hv
end Go.Sx.N
