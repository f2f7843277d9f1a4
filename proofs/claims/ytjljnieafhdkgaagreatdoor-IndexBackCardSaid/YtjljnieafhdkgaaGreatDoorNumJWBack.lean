/-
  The conditions are what the executor says. Conditions: none; printed by a program of our own.
-/
import Derived.Test.YtjljnieafhdkgaaGreatDoorNumT
import Derived.Test.YtjljnieafhdkgaaGreatDoorNumVWBack
import Derived.KernelRfl
namespace Go.Sx.N
open Go.Proofs
theorem j_WBack : (vc (A := sem Tb) (cfgAt b82) 6 7 ⟨[.cell (.sl 52) false, .cell (.int .i64) false, .cell (.int .i64) false, .cell (.int .i64) false, .cell (.int .u16) false], [.cell (.bool) false]⟩).den = V_WBack := by kernel_rfl
theorem l_WBack (h : SigOk Tb (cfgAt b82)) (hv : V_WBack) : ConOK Tryz.prog 7 ⟨[.cell (.sl 52) false, .cell (.int .i64) false, .cell (.int .i64) false, .cell (.int .i64) false, .cell (.int .u16) false], [.cell (.bool) false]⟩ (Tb 7) := SigOk.law (l := b82) h j_WBack hv
end Go.Sx.N
