/-
  The conditions are what the executor says. Conditions: none; printed by a program of our own.
-/
import Derived.Test.YtljmbenpkbjmmaaGreatNumT
import Derived.Test.YtljmbenpkbjmmaaGreatNumVI
import Derived.KernelRfl
namespace Go.Sx.N
open Go.Proofs
theorem j_Part : (vc (A := sem Tb) (cfgAt b106) 6 27 ⟨[.cell (.int .i64) false, .cell (.int .i64) false], [.agg [(.bool, false), (.sl 97, false), (.bool, false), (.sl 97, false)]]⟩).den = V_Part := by kernel_rfl
theorem s_Part (h : SigOk Tb (cfgAt b106)) (hv : V_Part) : SigOk Tb (cfgAt b107) := SigOk.next (l := b106) h (f := 27) (sg := ⟨[.cell (.int .i64) false, .cell (.int .i64) false], [.agg [(.bool, false), (.sl 97, false), (.bool, false), (.sl 97, false)]]⟩) rfl j_Part hv
theorem j_few : (vc (A := sem Tb) (cfgAt b107) 6 10 ⟨[.agg [(.int .i64, false), (.sl 3, false), (.sl 55, false)]], [.cell (.bool) false]⟩).den = V_few := by kernel_rfl
theorem s_few (h : SigOk Tb (cfgAt b107)) (hv : V_few) : SigOk Tb (cfgAt b108) := SigOk.next (l := b107) h (f := 10) (sg := ⟨[.agg [(.int .i64, false), (.sl 3, false), (.sl 55, false)]], [.cell (.bool) false]⟩) rfl j_few hv
theorem j_light : (vc (A := sem Tb) (cfgAt b108) 6 11 ⟨[.agg [(.bool, false), (.sl 97, false), (.bool, false), (.sl 97, false)]], [.cell (.bool) false]⟩).den = V_light := by kernel_rfl
theorem s_light (h : SigOk Tb (cfgAt b108)) (hv : V_light) : SigOk Tb (cfgAt b109) := SigOk.next (l := b108) h (f := 11) (sg := ⟨[.agg [(.bool, false), (.sl 97, false), (.bool, false), (.sl 97, false)]], [.cell (.bool) false]⟩) rfl j_light hv
theorem j_paids : (vc (A := sem Tb) (cfgAt b109) 6 21 ⟨[.cell (.sl 55) false, .cell (.sl 55) false], [.cell (.bool) false]⟩).den = V_paids := by kernel_rfl
theorem s_paids (h : SigOk Tb (cfgAt b109)) (hv : V_paids) : SigOk Tb (cfgAt b110) := SigOk.next (l := b109) h (f := 21) (sg := ⟨[.cell (.sl 55) false, .cell (.sl 55) false], [.cell (.bool) false]⟩) rfl j_paids hv
theorem j_example : (vc (A := sem Tb) (cfgAt b110) 6 31 ⟨[], [.agg [(.int .i64, false), (.sl 3, true), (.sl 55, true)]]⟩).den = V_example := by kernel_rfl
theorem s_example (h : SigOk Tb (cfgAt b110)) (hv : V_example) : SigOk Tb (cfgAt b111) := SigOk.next (l := b110) h (f := 31) (sg := ⟨[], [.agg [(.int .i64, false), (.sl 3, true), (.sl 55, true)]]⟩) rfl j_example hv
theorem j_awake : (vc (A := sem Tb) (cfgAt b111) 6 12 ⟨[], [.cell (.bool) false]⟩).den = V_awake := by kernel_rfl
theorem s_awake (h : SigOk Tb (cfgAt b111)) (hv : V_awake) : SigOk Tb (cfgAt b112) := SigOk.next (l := b111) h (f := 12) (sg := ⟨[], [.cell (.bool) false]⟩) rfl j_awake hv
end Go.Sx.N
