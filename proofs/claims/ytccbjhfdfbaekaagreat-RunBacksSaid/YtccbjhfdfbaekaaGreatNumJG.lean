/-
 The conditions are what the executor says. Conditions: none; printed by a program of our own.
-/
import Derived.Test.YtccbjhfdfbaekaaGreatNumT
import Derived.Test.YtccbjhfdfbaekaaGreatNumVG
import Derived.KernelRfl
namespace Go.Sx.N
open Go.Proofs
theorem ajl : aC KO 6 68 = Yf := by kernel_rfl
theorem aci : aC b60 6 66 = Jo := by kernel_rfl
theorem afu : aC KP 6 41 = N9 := by kernel_rfl
theorem acn : aC ZQ 6 69 = Jq := by kernel_rfl
theorem ahD : aC b63 6 43 = Tv := by kernel_rfl
theorem acp : aC b64 6 71 = Jr := by kernel_rfl
theorem ahF : aC pq 6 45 = Tz := by kernel_rfl
theorem acs : aC RD 6 57 = Js := by kernel_rfl
end Go.Sx.N
