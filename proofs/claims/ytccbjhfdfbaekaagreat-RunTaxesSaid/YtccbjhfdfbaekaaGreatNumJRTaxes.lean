/-
 The conditions are what the executor says. Conditions: none; printed by a program of our own.
-/
import Derived.Test.YtccbjhfdfbaekaaGreatNumT
import Derived.Test.YtccbjhfdfbaekaaGreatNumVRTaxes
import Derived.KernelRfl
import Derived.Test.YtccbjhfdfbaekaaGreatEngS
namespace Go.Sx.N
open Go.Proofs
theorem adF : aH (Iw.filter fun x => !([9] : List Nat).contains x) 6 6 = Jz := by kernel_rfl
theorem aaK (h : aG Iw) (hv : Jz) : uo Tryz.prog 6 ⟨[.cell (.int .u8) false, .agg [(.int .u32, false), (.int .u32, false), (.int .u32, false), (.int .u32, false), (.int .u32, false), (.int .u32, false), (.int .u32, false), (.int .u32, false), (.int .u32, false), (.int .u32, false), (.int .u32, false), (.int .u32, false)], .cell (.int .u8) false], [.cell (.bool) false]⟩ (Tb 6) := lwA (h.skip _) adF hv
end Go.Sx.N
