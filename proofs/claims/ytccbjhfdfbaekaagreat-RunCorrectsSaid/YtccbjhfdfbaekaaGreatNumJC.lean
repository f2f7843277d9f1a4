/-
 The conditions are what the executor says. Conditions: none; printed by a program of our own.
-/
import Derived.Test.YtccbjhfdfbaekaaGreatNumT
import Derived.Test.YtccbjhfdfbaekaaGreatNumVC
import Derived.KernelRfl
namespace Go.Sx.N
open Go.Proofs
theorem adB : aT rO 6 195 = TF := by kernel_rfl
theorem adD : aT Sv 6 196 = TG := by kernel_rfl
theorem akW : aT b36 6 175 = ab1 := by kernel_rfl
theorem ah1 : aT Zj 6 164 = ZW := by kernel_rfl
theorem afE : aT b38 6 173 = WB := by kernel_rfl
theorem ah3 : aT BZ 6 163 = ZX := by kernel_rfl
theorem ah5 : aT Gg 6 157 = ZY := by kernel_rfl
theorem abf : aT zC 6 162 = Pj := by kernel_rfl
theorem adG : aT Af 6 121 = TI := by kernel_rfl
theorem ang : aT L6 6 160 = agj := by kernel_rfl
theorem ani : aT Zl 6 125 = agk := by kernel_rfl
theorem ank : aT pK 6 126 = agl := by kernel_rfl
theorem anm : aT b46 6 167 = agm := by kernel_rfl
theorem anp : aT Ag 6 136 = agn := by kernel_rfl
theorem ah7 : aT b48 6 135 = Z4 := by kernel_rfl
end Go.Sx.N
