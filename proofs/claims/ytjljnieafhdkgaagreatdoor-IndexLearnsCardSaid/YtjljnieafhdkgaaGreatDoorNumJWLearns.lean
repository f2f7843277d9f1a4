/-
  The conditions are what the executor says. Conditions: none; printed by a program of our own.
-/
import Derived.Test.YtjljnieafhdkgaaGreatDoorNumT
import Derived.Test.YtjljnieafhdkgaaGreatDoorNumVWLearns
import Derived.KernelRfl
namespace Go.Sx.N
open Go.Proofs
theorem j_WLearns : VCA b83 6 9 = V_WLearns := by kernel_rfl
theorem l_WLearns (h : OKA b83) (hv : V_WLearns) : ConOK Tryz.prog 9 ⟨[.cell (.sl 52) false, .cell (.int .u16) false, .cell (.int .u16) false, .cell (.int .i64) false, .cell (.int .i64) false, .cell (.int .i64) false], [.cell (.bool) false]⟩ (Tb 9) := lwA h j_WLearns hv
end Go.Sx.N
