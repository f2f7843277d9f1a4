/-
  The conditions are what the executor says. Conditions: none; printed by a program of our own.
-/
import Derived.Test.YtjljnieafhdkgaaGreatDoorNumT
import Derived.Test.YtjljnieafhdkgaaGreatDoorNumVK
import Derived.KernelRfl
namespace Go.Sx.N
open Go.Proofs
theorem j_kSameLimbs : VCA b44 6 83 = V_kSameLimbs := by kernel_rfl
theorem j_kSameWhole : VCA b45 6 52 = V_kSameWhole := by kernel_rfl
theorem j_kSameFrac : VCA b46 6 21 = V_kSameFrac := by kernel_rfl
theorem j_kPick : VCA b47 6 22 = V_kPick := by kernel_rfl
end Go.Sx.N
