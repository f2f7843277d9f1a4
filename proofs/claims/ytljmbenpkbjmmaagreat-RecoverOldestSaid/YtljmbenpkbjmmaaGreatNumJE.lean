/-
  The conditions are what the executor says. Conditions: none; printed by a program of our own.
-/
import Derived.Test.YtljmbenpkbjmmaaGreatNumT
import Derived.Test.YtljmbenpkbjmmaaGreatNumVE
import Derived.KernelRfl
namespace Go.Sx.N
open Go.Proofs
theorem j_rOne : (vc (A := sem Tb) (cfgAt b65) 6 92 ⟨[.cell (.sl 97) false], [.cell (.bool) false]⟩).den = V_rOne := by kernel_rfl
theorem s_rOne (h : SigOk Tb (cfgAt b65)) (hv : V_rOne) : SigOk Tb (cfgAt b66) := SigOk.next (l := b65) h (f := 92) (sg := ⟨[.cell (.sl 97) false], [.cell (.bool) false]⟩) rfl j_rOne hv
theorem j_rFits : (vc (A := sem Tb) (cfgAt b66) 6 91 ⟨[.agg [(.bool, false), (.sl 97, false), (.bool, false), (.sl 97, false)]], [.cell (.bool) false]⟩).den = V_rFits := by kernel_rfl
theorem s_rFits (h : SigOk Tb (cfgAt b66)) (hv : V_rFits) : SigOk Tb (cfgAt b67) := SigOk.next (l := b66) h (f := 91) (sg := ⟨[.agg [(.bool, false), (.sl 97, false), (.bool, false), (.sl 97, false)]], [.cell (.bool) false]⟩) rfl j_rFits hv
theorem j_rLowest : (vc (A := sem Tb) (cfgAt b67) 6 95 ⟨[.agg [(.bool, false), (.sl 97, false)], .agg [(.bool, false), (.sl 97, false)]], [.agg [(.bool, false), (.sl 97, false), (.bool, false), (.sl 97, false)]]⟩).den = V_rLowest := by kernel_rfl
theorem s_rLowest (h : SigOk Tb (cfgAt b67)) (hv : V_rLowest) : SigOk Tb (cfgAt b68) := SigOk.next (l := b67) h (f := 95) (sg := ⟨[.agg [(.bool, false), (.sl 97, false)], .agg [(.bool, false), (.sl 97, false)]], [.agg [(.bool, false), (.sl 97, false), (.bool, false), (.sl 97, false)]]⟩) rfl j_rLowest hv
theorem j_rValid2 : (vc (A := sem Tb) (cfgAt b68) 6 60 ⟨[.agg [(.bool, false), (.sl 97, false), (.bool, false), (.sl 97, false)]], [.cell (.bool) false]⟩).den = V_rValid2 := by kernel_rfl
theorem s_rValid2 (h : SigOk Tb (cfgAt b68)) (hv : V_rValid2) : SigOk Tb (cfgAt b69) := SigOk.next (l := b68) h (f := 60) (sg := ⟨[.agg [(.bool, false), (.sl 97, false), (.bool, false), (.sl 97, false)]], [.cell (.bool) false]⟩) rfl j_rValid2 hv
theorem j_rFromInt2 : (vc (A := sem Tb) (cfgAt b69) 6 37 ⟨[.cell (.int .i64) false], [.agg [(.bool, false), (.sl 97, false), (.bool, false), (.sl 97, false)]]⟩).den = V_rFromInt2 := by kernel_rfl
theorem s_rFromInt2 (h : SigOk Tb (cfgAt b69)) (hv : V_rFromInt2) : SigOk Tb (cfgAt b70) := SigOk.next (l := b69) h (f := 37) (sg := ⟨[.cell (.int .i64) false], [.agg [(.bool, false), (.sl 97, false), (.bool, false), (.sl 97, false)]]⟩) rfl j_rFromInt2 hv
theorem j_rTimes2 : (vc (A := sem Tb) (cfgAt b70) 6 63 ⟨[.agg [(.bool, false), (.sl 97, false), (.bool, false), (.sl 97, false)], .agg [(.bool, false), (.sl 97, false), (.bool, false), (.sl 97, false)]], [.agg [(.bool, false), (.sl 97, false), (.bool, false), (.sl 97, false)]]⟩).den = V_rTimes2 := by kernel_rfl
theorem s_rTimes2 (h : SigOk Tb (cfgAt b70)) (hv : V_rTimes2) : SigOk Tb (cfgAt b71) := SigOk.next (l := b70) h (f := 63) (sg := ⟨[.agg [(.bool, false), (.sl 97, false), (.bool, false), (.sl 97, false)], .agg [(.bool, false), (.sl 97, false), (.bool, false), (.sl 97, false)]], [.agg [(.bool, false), (.sl 97, false), (.bool, false), (.sl 97, false)]]⟩) rfl j_rTimes2 hv
theorem j_rOrder2 : (vc (A := sem Tb) (cfgAt b71) 6 94 ⟨[.agg [(.bool, false), (.sl 97, false), (.bool, false), (.sl 97, false)], .agg [(.bool, false), (.sl 97, false), (.bool, false), (.sl 97, false)]], [.cell (.int .i64) false]⟩).den = V_rOrder2 := by kernel_rfl
theorem s_rOrder2 (h : SigOk Tb (cfgAt b71)) (hv : V_rOrder2) : SigOk Tb (cfgAt b72) := SigOk.next (l := b71) h (f := 94) (sg := ⟨[.agg [(.bool, false), (.sl 97, false), (.bool, false), (.sl 97, false)], .agg [(.bool, false), (.sl 97, false), (.bool, false), (.sl 97, false)]], [.cell (.int .i64) false]⟩) rfl j_rOrder2 hv
theorem j_rCmp2 : (vc (A := sem Tb) (cfgAt b72) 6 61 ⟨[.agg [(.bool, false), (.sl 97, false), (.bool, false), (.sl 97, false)], .agg [(.bool, false), (.sl 97, false), (.bool, false), (.sl 97, false)]], [.cell (.int .i64) false]⟩).den = V_rCmp2 := by kernel_rfl
theorem s_rCmp2 (h : SigOk Tb (cfgAt b72)) (hv : V_rCmp2) : SigOk Tb (cfgAt b73) := SigOk.next (l := b72) h (f := 61) (sg := ⟨[.agg [(.bool, false), (.sl 97, false), (.bool, false), (.sl 97, false)], .agg [(.bool, false), (.sl 97, false), (.bool, false), (.sl 97, false)]], [.cell (.int .i64) false]⟩) rfl j_rCmp2 hv
theorem j_rFloor2 : (vc (A := sem Tb) (cfgAt b73) 6 38 ⟨[.agg [(.bool, false), (.sl 97, false), (.bool, false), (.sl 97, false)]], [.agg [(.bool, false), (.sl 97, false)], .cell (.int .i64) false]⟩).den = V_rFloor2 := by kernel_rfl
theorem s_rFloor2 (h : SigOk Tb (cfgAt b73)) (hv : V_rFloor2) : SigOk Tb (cfgAt b74) := SigOk.next (l := b73) h (f := 38) (sg := ⟨[.agg [(.bool, false), (.sl 97, false), (.bool, false), (.sl 97, false)]], [.agg [(.bool, false), (.sl 97, false)], .cell (.int .i64) false]⟩) rfl j_rFloor2 hv
end Go.Sx.N
