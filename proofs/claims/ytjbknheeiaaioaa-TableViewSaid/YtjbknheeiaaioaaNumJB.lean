/-
  The conditions are what the executor says. Conditions: none; printed by a program of our own.
-/
import Derived.Test.YtjbknheeiaaioaaNumT
import Derived.Test.YtjbknheeiaaioaaNumVB
import Derived.KernelRfl
namespace Go.Sx.N
open Go.Proofs
theorem j_Clone16 : (vc (A := sem Tb) (cfgAt b19) 6 49 ⟨[.cell (.sl 50) false], [.cell (.sl 50) false]⟩).den = V_Clone16 := by kernel_rfl
theorem s_Clone16 (h : SigOk Tb (cfgAt b19)) (hv : V_Clone16) : SigOk Tb (cfgAt b20) := SigOk.next (l := b19) h (f := 49) (sg := ⟨[.cell (.sl 50) false], [.cell (.sl 50) false]⟩) rfl j_Clone16 hv
theorem j_wValid : (vc (A := sem Tb) (cfgAt b20) 6 61 ⟨[.agg [(.bool, false), (.sl 50, false)]], [.cell (.bool) false]⟩).den = V_wValid := by kernel_rfl
theorem s_wValid (h : SigOk Tb (cfgAt b20)) (hv : V_wValid) : SigOk Tb (cfgAt b21) := SigOk.next (l := b20) h (f := 61) (sg := ⟨[.agg [(.bool, false), (.sl 50, false)]], [.cell (.bool) false]⟩) rfl j_wValid hv
theorem j_wAllValid : (vc (A := sem Tb) (cfgAt b21) 6 67 ⟨[.cell (.sl 30) false], [.cell (.bool) false]⟩).den = V_wAllValid := by kernel_rfl
theorem s_wAllValid (h : SigOk Tb (cfgAt b21)) (hv : V_wAllValid) : SigOk Tb (cfgAt b22) := SigOk.next (l := b21) h (f := 67) (sg := ⟨[.cell (.sl 30) false], [.cell (.bool) false]⟩) rfl j_wAllValid hv
theorem j_wGcd : (vc (A := sem Tb) (cfgAt b22) 6 66 ⟨[.agg [(.bool, false), (.sl 50, false)], .agg [(.bool, false), (.sl 50, false)]], [.agg [(.bool, false), (.sl 50, false)], .cell (.int .i64) false]⟩).den = V_wGcd := by kernel_rfl
theorem s_wGcd (h : SigOk Tb (cfgAt b22)) (hv : V_wGcd) : SigOk Tb (cfgAt b23) := SigOk.next (l := b22) h (f := 66) (sg := ⟨[.agg [(.bool, false), (.sl 50, false)], .agg [(.bool, false), (.sl 50, false)]], [.agg [(.bool, false), (.sl 50, false)], .cell (.int .i64) false]⟩) rfl j_wGcd hv
end Go.Sx.N
