/-
  The conditions are what the executor says. Conditions: none; printed by a program of our own.
-/
import Derived.Test.YtjljnieafhdkgaaGreatDoorNumT
import Derived.Test.YtjljnieafhdkgaaGreatDoorNumVWWrong
import Derived.KernelRfl
namespace Go.Sx.N
open Go.Proofs
theorem j_WWrong : (vc (A := sem Tb) (cfgAt b82) 6 8 ⟨[.cell (.sl 52) false, .cell (.int .i64) false, .cell (.int .i64) false, .cell (.int .u8) false], [.cell (.bool) false]⟩).den = V_WWrong := by kernel_rfl
theorem l_WWrong (h : SigOk Tb (cfgAt b82)) (hv : V_WWrong) : ConOK Tryz.prog 8 ⟨[.cell (.sl 52) false, .cell (.int .i64) false, .cell (.int .i64) false, .cell (.int .u8) false], [.cell (.bool) false]⟩ (Tb 8) := SigOk.law (l := b82) h j_WWrong hv
end Go.Sx.N
