/-
 The conditions are what the executor says. Conditions: none; printed by a program of our own.
-/
import Derived.Test.YtccbjhfdfbaekaaGreatNumT
import Derived.Test.YtccbjhfdfbaekaaGreatNumVZ
import Derived.KernelRfl
namespace Go.Sx.N
open Go.Proofs
theorem afV : aT b87 6 55 = WH := by kernel_rfl
theorem anG : aT b88 6 56 = agt := by kernel_rfl
theorem aiI : aT b89 6 25 = aam := by kernel_rfl
theorem alp : aT b90 6 27 = ab9 := by kernel_rfl
theorem apg : aT Zv 6 8 = akd := by kernel_rfl
theorem anJ : aT b92 6 12 = agu := by kernel_rfl
theorem anL : aT SB 6 46 = agv := by kernel_rfl
theorem aiL : aT b94 6 17 = aan := by kernel_rfl
theorem alv : aT b95 6 11 = acd := by kernel_rfl
theorem adR : aT Zw 6 9 = TM := by kernel_rfl
theorem afZ : aT b97 6 21 = WI := by kernel_rfl
theorem aiO : aT b98 6 10 = aao := by kernel_rfl
theorem aiQ : aT b99 6 14 = aap := by kernel_rfl
theorem aiS : aT zD 6 44 = aaq := by kernel_rfl
theorem anM : aT U4 6 15 = agw := by kernel_rfl
end Go.Sx.N
