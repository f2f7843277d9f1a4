/-
  The conditions are what the executor says. Conditions: none; printed by a program of our own.
-/
import Derived.Test.YtjljnieafhdkgaaGreatDoorNumT
import Derived.Test.YtjljnieafhdkgaaGreatDoorNumVK
import Derived.KernelRfl
namespace Go.Sx.N
open Go.Proofs
theorem j_kSameLimbs : (vc (A := sem Tb) (cfgAt b44) 6 83 ⟨[.cell (.sl 52) false, .cell (.sl 52) false], [.cell (.bool) false]⟩).den = V_kSameLimbs := by kernel_rfl
theorem s_kSameLimbs (h : SigOk Tb (cfgAt b44)) (hv : V_kSameLimbs) : SigOk Tb (cfgAt b45) := SigOk.next (l := b44) h (f := 83) (sg := ⟨[.cell (.sl 52) false, .cell (.sl 52) false], [.cell (.bool) false]⟩) rfl j_kSameLimbs hv
theorem j_kSameWhole : (vc (A := sem Tb) (cfgAt b45) 6 52 ⟨[.agg [(.bool, false), (.sl 52, false)], .agg [(.bool, false), (.sl 52, false)]], [.cell (.bool) false]⟩).den = V_kSameWhole := by kernel_rfl
theorem s_kSameWhole (h : SigOk Tb (cfgAt b45)) (hv : V_kSameWhole) : SigOk Tb (cfgAt b46) := SigOk.next (l := b45) h (f := 52) (sg := ⟨[.agg [(.bool, false), (.sl 52, false)], .agg [(.bool, false), (.sl 52, false)]], [.cell (.bool) false]⟩) rfl j_kSameWhole hv
theorem j_kSameFrac : (vc (A := sem Tb) (cfgAt b46) 6 21 ⟨[.agg [(.bool, false), (.sl 52, false), (.bool, false), (.sl 52, false)], .agg [(.bool, false), (.sl 52, false), (.bool, false), (.sl 52, false)]], [.cell (.bool) false]⟩).den = V_kSameFrac := by kernel_rfl
theorem s_kSameFrac (h : SigOk Tb (cfgAt b46)) (hv : V_kSameFrac) : SigOk Tb (cfgAt b47) := SigOk.next (l := b46) h (f := 21) (sg := ⟨[.agg [(.bool, false), (.sl 52, false), (.bool, false), (.sl 52, false)], .agg [(.bool, false), (.sl 52, false), (.bool, false), (.sl 52, false)]], [.cell (.bool) false]⟩) rfl j_kSameFrac hv
theorem j_kPick : (vc (A := sem Tb) (cfgAt b47) 6 22 ⟨[.cell (.int .i64) false, .cell (.int .i64) false], [.cell (.int .i64) false]⟩).den = V_kPick := by kernel_rfl
theorem s_kPick (h : SigOk Tb (cfgAt b47)) (hv : V_kPick) : SigOk Tb (cfgAt b48) := SigOk.next (l := b47) h (f := 22) (sg := ⟨[.cell (.int .i64) false, .cell (.int .i64) false], [.cell (.int .i64) false]⟩) rfl j_kPick hv
end Go.Sx.N
