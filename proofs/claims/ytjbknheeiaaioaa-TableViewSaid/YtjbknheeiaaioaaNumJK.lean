/-
  The conditions are what the executor says. Conditions: none; printed by a program of our own.
-/
import Derived.Test.YtjbknheeiaaioaaNumT
import Derived.Test.YtjbknheeiaaioaaNumVK
import Derived.KernelRfl
namespace Go.Sx.N
open Go.Proofs
theorem j_kSameLimbs : (vc (A := sem Tb) (cfgAt b25) 6 50 ⟨[.cell (.sl 50) false, .cell (.sl 50) false], [.cell (.bool) false]⟩).den = V_kSameLimbs := by kernel_rfl
theorem s_kSameLimbs (h : SigOk Tb (cfgAt b25)) (hv : V_kSameLimbs) : SigOk Tb (cfgAt b26) := SigOk.next (l := b25) h (f := 50) (sg := ⟨[.cell (.sl 50) false, .cell (.sl 50) false], [.cell (.bool) false]⟩) rfl j_kSameLimbs hv
theorem j_kSameWhole : (vc (A := sem Tb) (cfgAt b26) 6 33 ⟨[.agg [(.bool, false), (.sl 50, false)], .agg [(.bool, false), (.sl 50, false)]], [.cell (.bool) false]⟩).den = V_kSameWhole := by kernel_rfl
theorem s_kSameWhole (h : SigOk Tb (cfgAt b26)) (hv : V_kSameWhole) : SigOk Tb (cfgAt b27) := SigOk.next (l := b26) h (f := 33) (sg := ⟨[.agg [(.bool, false), (.sl 50, false)], .agg [(.bool, false), (.sl 50, false)]], [.cell (.bool) false]⟩) rfl j_kSameWhole hv
theorem j_kSameFrac : (vc (A := sem Tb) (cfgAt b27) 6 13 ⟨[.agg [(.bool, false), (.sl 50, false), (.bool, false), (.sl 50, false)], .agg [(.bool, false), (.sl 50, false), (.bool, false), (.sl 50, false)]], [.cell (.bool) false]⟩).den = V_kSameFrac := by kernel_rfl
theorem s_kSameFrac (h : SigOk Tb (cfgAt b27)) (hv : V_kSameFrac) : SigOk Tb (cfgAt b28) := SigOk.next (l := b27) h (f := 13) (sg := ⟨[.agg [(.bool, false), (.sl 50, false), (.bool, false), (.sl 50, false)], .agg [(.bool, false), (.sl 50, false), (.bool, false), (.sl 50, false)]], [.cell (.bool) false]⟩) rfl j_kSameFrac hv
end Go.Sx.N
