/-
 The conditions are what the executor says. Conditions: none; printed by a program of our own.
-/
import Derived.Test.YtccbjhfdfbaekaaGreatNumT
import Derived.Test.YtccbjhfdfbaekaaGreatNumVY
import Derived.KernelRfl
namespace Go.Sx.N
open Go.Proofs
theorem adM : aT Zn 6 89 = TK := by kernel_rfl
theorem abl : aT b80 6 168 = Pq := by kernel_rfl
theorem aiF : aT Zo 6 131 = aal := by kernel_rfl
theorem Zr : aT b82 6 88 = Nh := by kernel_rfl
theorem adO : aT b83 6 90 = TL := by kernel_rfl
theorem alk : aT Zt 6 134 = ab8 := by kernel_rfl
theorem anE : aT b85 6 92 = ags := by kernel_rfl
theorem abo : aT b86 6 62 = Pv := by kernel_rfl
end Go.Sx.N
