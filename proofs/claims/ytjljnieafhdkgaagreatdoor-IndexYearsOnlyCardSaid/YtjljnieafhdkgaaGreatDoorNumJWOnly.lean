/-
  The conditions are what the executor says. Conditions: none; printed by a program of our own.
-/
import Derived.Test.YtjljnieafhdkgaaGreatDoorNumT
import Derived.Test.YtjljnieafhdkgaaGreatDoorNumVWOnly
import Derived.KernelRfl
namespace Go.Sx.N
open Go.Proofs
theorem j_WOnly : (vc (A := sem Tb) (cfgAt b82) 6 6 ⟨[.cell (.sl 52) false, .cell (.int .i64) false, .cell (.int .i64) false, .cell (.int .i64) false], [.cell (.bool) false]⟩).den = V_WOnly := by kernel_rfl
theorem l_WOnly (h : SigOk Tb (cfgAt b82)) (hv : V_WOnly) : ConOK Tryz.prog 6 ⟨[.cell (.sl 52) false, .cell (.int .i64) false, .cell (.int .i64) false, .cell (.int .i64) false], [.cell (.bool) false]⟩ (Tb 6) := SigOk.law (l := b82) h j_WOnly hv
end Go.Sx.N
