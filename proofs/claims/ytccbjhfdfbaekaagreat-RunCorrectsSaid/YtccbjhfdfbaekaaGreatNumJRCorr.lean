/-
 The conditions are what the executor says. Conditions: none; printed by a program of our own.
-/
import Derived.Test.YtccbjhfdfbaekaaGreatNumT
import Derived.Test.YtccbjhfdfbaekaaGreatNumVRCorr
import Derived.KernelRfl
namespace Go.Sx.N
open Go.Proofs
theorem amh : aT Jb 6 3 = VH := by kernel_rfl
theorem amg (h : aQ Jb) (hv : VH) : xE Tryz.prog 3 ⟨[.cell (.int .u16) false, .cell (.int .u32) false, .cell (.int .u32) false, .cell (.int .u32) false], [.cell (.bool) false]⟩ (Tb 3) := lwA h amh hv
end Go.Sx.N
