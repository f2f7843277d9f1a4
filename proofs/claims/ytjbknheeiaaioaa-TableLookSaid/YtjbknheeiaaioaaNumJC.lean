/-
  The conditions are what the executor says. Conditions: none; printed by a program of our own.
-/
import Derived.Test.YtjbknheeiaaioaaNumT
import Derived.Test.YtjbknheeiaaioaaNumVC
import Derived.KernelRfl
namespace Go.Sx.N
open Go.Proofs
theorem j_fDivisor : (vc (A := sem Tb) (cfgAt b23) 6 64 ⟨[.agg [(.bool, false), (.sl 50, false)], .agg [(.bool, false), (.sl 50, false)]], [.agg [(.bool, false), (.sl 50, false)]]⟩).den = V_fDivisor := by kernel_rfl
theorem s_fDivisor (h : SigOk Tb (cfgAt b23)) (hv : V_fDivisor) : SigOk Tb (cfgAt b24) := SigOk.next (l := b23) h (f := 64) (sg := ⟨[.agg [(.bool, false), (.sl 50, false)], .agg [(.bool, false), (.sl 50, false)]], [.agg [(.bool, false), (.sl 50, false)]]⟩) rfl j_fDivisor hv
theorem j_fValid : (vc (A := sem Tb) (cfgAt b24) 6 44 ⟨[.agg [(.bool, false), (.sl 50, false), (.bool, false), (.sl 50, false)]], [.cell (.bool) false]⟩).den = V_fValid := by kernel_rfl
theorem s_fValid (h : SigOk Tb (cfgAt b24)) (hv : V_fValid) : SigOk Tb (cfgAt b25) := SigOk.next (l := b24) h (f := 44) (sg := ⟨[.agg [(.bool, false), (.sl 50, false), (.bool, false), (.sl 50, false)]], [.cell (.bool) false]⟩) rfl j_fValid hv
end Go.Sx.N
