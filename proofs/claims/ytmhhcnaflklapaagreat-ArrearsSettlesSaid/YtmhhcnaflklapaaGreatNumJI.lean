/-
  The conditions are what the executor says. Conditions: none; printed by a program of our own.
-/
import Derived.Test.YtmhhcnaflklapaaGreatNumT
import Derived.Test.YtmhhcnaflklapaaGreatNumVI
import Derived.KernelRfl
namespace Go.Sx.N
open Go.Proofs
theorem j_aShort : (vc (A := sem Tb) (cfgAt b68) 6 103 ⟨[.agg [(.bool, false), (.sl 33, false), (.bool, false), (.sl 33, false)]], [.cell (.bool) false]⟩).den = V_aShort := by kernel_rfl
theorem s_aShort (h : SigOk Tb (cfgAt b68)) (hv : V_aShort) : SigOk Tb (cfgAt b69) := SigOk.next (l := b68) h (f := 103) (sg := ⟨[.agg [(.bool, false), (.sl 33, false), (.bool, false), (.sl 33, false)]], [.cell (.bool) false]⟩) rfl j_aShort hv
theorem j_aFirst : (vc (A := sem Tb) (cfgAt b69) 6 69 ⟨[.cell (.sl 24) false], [.cell (.int .i64) false]⟩).den = V_aFirst := by kernel_rfl
theorem s_aFirst (h : SigOk Tb (cfgAt b69)) (hv : V_aFirst) : SigOk Tb (cfgAt b70) := SigOk.next (l := b69) h (f := 69) (sg := ⟨[.cell (.sl 24) false], [.cell (.int .i64) false]⟩) rfl j_aFirst hv
theorem j_aAmount : (vc (A := sem Tb) (cfgAt b70) 6 70 ⟨[.agg [(.bool, false), (.sl 33, false), (.bool, false), (.sl 33, false)]], [.cell (.int .i64) false, .cell (.int .i64) false]⟩).den = V_aAmount := by kernel_rfl
theorem s_aAmount (h : SigOk Tb (cfgAt b70)) (hv : V_aAmount) : SigOk Tb (cfgAt b71) := SigOk.next (l := b70) h (f := 70) (sg := ⟨[.agg [(.bool, false), (.sl 33, false), (.bool, false), (.sl 33, false)]], [.cell (.int .i64) false, .cell (.int .i64) false]⟩) rfl j_aAmount hv
theorem j_Interest : (vc (A := sem Tb) (cfgAt b71) 6 10 ⟨[.cell (.int .i64) false, .cell (.int .i64) false, .cell (.int .i64) false, .agg [(.str, false), (.bool, false), (.sl 41, false)], .cell (.int .i64) false], [.cell (.int .i64) false, .cell (.int .i64) false]⟩).den = V_Interest := by kernel_rfl
theorem s_Interest (h : SigOk Tb (cfgAt b71)) (hv : V_Interest) : SigOk Tb (cfgAt b72) := SigOk.next (l := b71) h (f := 10) (sg := ⟨[.cell (.int .i64) false, .cell (.int .i64) false, .cell (.int .i64) false, .agg [(.str, false), (.bool, false), (.sl 41, false)], .cell (.int .i64) false], [.cell (.int .i64) false, .cell (.int .i64) false]⟩) rfl j_Interest hv
theorem j_Late : (vc (A := sem Tb) (cfgAt b72) 6 22 ⟨[.agg [(.int .i64, false), (.sl 3, false), (.sl 84, false)], .cell (.int .i64) false], [.cell (.sl 3) true, .cell (.int .i64) false]⟩).den = V_Late := by kernel_rfl
theorem s_Late (h : SigOk Tb (cfgAt b72)) (hv : V_Late) : SigOk Tb (cfgAt b73) := SigOk.next (l := b72) h (f := 22) (sg := ⟨[.agg [(.int .i64, false), (.sl 3, false), (.sl 84, false)], .cell (.int .i64) false], [.cell (.sl 3) true, .cell (.int .i64) false]⟩) rfl j_Late hv
theorem j_Owed : (vc (A := sem Tb) (cfgAt b73) 6 23 ⟨[.agg [(.int .i64, false), (.sl 3, false), (.sl 84, false)], .cell (.int .i64) false], [.cell (.int .i64) false, .cell (.int .i64) false]⟩).den = V_Owed := by kernel_rfl
theorem s_Owed (h : SigOk Tb (cfgAt b73)) (hv : V_Owed) : SigOk Tb (cfgAt b74) := SigOk.next (l := b73) h (f := 23) (sg := ⟨[.agg [(.int .i64, false), (.sl 3, false), (.sl 84, false)], .cell (.int .i64) false], [.cell (.int .i64) false, .cell (.int .i64) false]⟩) rfl j_Owed hv
theorem j_Owe : (vc (A := sem Tb) (cfgAt b74) 6 16 ⟨[.agg [(.int .i64, false), (.sl 3, false), (.sl 84, false)], .cell (.int .i64) false, .cell (.int .i64) false, .agg [(.str, false), (.bool, false), (.sl 41, false)], .cell (.int .i64) false], [.cell (.sl 84) true, .cell (.int .i64) false]⟩).den = V_Owe := by kernel_rfl
theorem s_Owe (h : SigOk Tb (cfgAt b74)) (hv : V_Owe) : SigOk Tb (cfgAt b75) := SigOk.next (l := b74) h (f := 16) (sg := ⟨[.agg [(.int .i64, false), (.sl 3, false), (.sl 84, false)], .cell (.int .i64) false, .cell (.int .i64) false, .agg [(.str, false), (.bool, false), (.sl 41, false)], .cell (.int .i64) false], [.cell (.sl 84) true, .cell (.int .i64) false]⟩) rfl j_Owe hv
theorem j_Settle : (vc (A := sem Tb) (cfgAt b75) 6 21 ⟨[.agg [(.int .i64, false), (.sl 3, false), (.sl 84, false)], .cell (.int .i64) false, .cell (.int .i64) false, .agg [(.str, false), (.bool, false), (.sl 41, false)], .cell (.int .i64) false], [.agg [(.int .i64, false), (.sl 3, true), (.sl 84, true)], .cell (.int .i64) false]⟩).den = V_Settle := by kernel_rfl
theorem s_Settle (h : SigOk Tb (cfgAt b75)) (hv : V_Settle) : SigOk Tb (cfgAt b76) := SigOk.next (l := b75) h (f := 21) (sg := ⟨[.agg [(.int .i64, false), (.sl 3, false), (.sl 84, false)], .cell (.int .i64) false, .cell (.int .i64) false, .agg [(.str, false), (.bool, false), (.sl 41, false)], .cell (.int .i64) false], [.agg [(.int .i64, false), (.sl 3, true), (.sl 84, true)], .cell (.int .i64) false]⟩) rfl j_Settle hv
theorem j_part : (vc (A := sem Tb) (cfgAt b76) 6 13 ⟨[.cell (.int .i64) false, .cell (.int .i64) false], [.agg [(.bool, false), (.sl 33, false), (.bool, false), (.sl 33, false)]]⟩).den = V_part := by kernel_rfl
theorem s_part (h : SigOk Tb (cfgAt b76)) (hv : V_part) : SigOk Tb (cfgAt b77) := SigOk.next (l := b76) h (f := 13) (sg := ⟨[.cell (.int .i64) false, .cell (.int .i64) false], [.agg [(.bool, false), (.sl 33, false), (.bool, false), (.sl 33, false)]]⟩) rfl j_part hv
theorem j_rates : (vc (A := sem Tb) (cfgAt b77) 6 11 ⟨[.cell (.sl 5) false], [.agg [(.str, false), (.bool, false), (.sl 41, false)]]⟩).den = V_rates := by kernel_rfl
theorem s_rates (h : SigOk Tb (cfgAt b77)) (hv : V_rates) : SigOk Tb (cfgAt b78) := SigOk.next (l := b77) h (f := 11) (sg := ⟨[.cell (.sl 5) false], [.agg [(.str, false), (.bool, false), (.sl 41, false)]]⟩) rfl j_rates hv
theorem j_yearly : (vc (A := sem Tb) (cfgAt b78) 6 36 ⟨[], [.agg [(.str, false), (.bool, false), (.sl 41, true)]]⟩).den = V_yearly := by kernel_rfl
theorem s_yearly (h : SigOk Tb (cfgAt b78)) (hv : V_yearly) : SigOk Tb (cfgAt b79) := SigOk.next (l := b78) h (f := 36) (sg := ⟨[], [.agg [(.str, false), (.bool, false), (.sl 41, true)]]⟩) rfl j_yearly hv
theorem j_lPosted : (vc (A := sem Tb) (cfgAt b79) 6 37 ⟨[], [.agg [(.int .i64, false), (.sl 3, true), (.sl 84, true)]]⟩).den = V_lPosted := by kernel_rfl
theorem s_lPosted (h : SigOk Tb (cfgAt b79)) (hv : V_lPosted) : SigOk Tb (cfgAt b80) := SigOk.next (l := b79) h (f := 37) (sg := ⟨[], [.agg [(.int .i64, false), (.sl 3, true), (.sl 84, true)]]⟩) rfl j_lPosted hv
theorem j_paids : (vc (A := sem Tb) (cfgAt b80) 6 24 ⟨[.cell (.sl 84) false, .cell (.sl 84) false], [.cell (.bool) false]⟩).den = V_paids := by kernel_rfl
theorem s_paids (h : SigOk Tb (cfgAt b80)) (hv : V_paids) : SigOk Tb (cfgAt b81) := SigOk.next (l := b80) h (f := 24) (sg := ⟨[.cell (.sl 84) false, .cell (.sl 84) false], [.cell (.bool) false]⟩) rfl j_paids hv
theorem j_near : (vc (A := sem Tb) (cfgAt b81) 6 18 ⟨[.cell (.int .i64) false, .cell (.int .i64) false], [.cell (.bool) false]⟩).den = V_near := by kernel_rfl
theorem s_near (h : SigOk Tb (cfgAt b81)) (hv : V_near) : SigOk Tb (cfgAt b82) := SigOk.next (l := b81) h (f := 18) (sg := ⟨[.cell (.int .i64) false, .cell (.int .i64) false], [.cell (.bool) false]⟩) rfl j_near hv
theorem j_few : (vc (A := sem Tb) (cfgAt b82) 6 14 ⟨[.agg [(.int .i64, false), (.sl 3, false), (.sl 84, false)], .cell (.int .i64) false], [.cell (.bool) false]⟩).den = V_few := by kernel_rfl
theorem s_few (h : SigOk Tb (cfgAt b82)) (hv : V_few) : SigOk Tb (cfgAt b83) := SigOk.next (l := b82) h (f := 14) (sg := ⟨[.agg [(.int .i64, false), (.sl 3, false), (.sl 84, false)], .cell (.int .i64) false], [.cell (.bool) false]⟩) rfl j_few hv
theorem j_aAwake : (vc (A := sem Tb) (cfgAt b83) 6 12 ⟨[], [.cell (.bool) false]⟩).den = V_aAwake := by kernel_rfl
theorem s_aAwake (h : SigOk Tb (cfgAt b83)) (hv : V_aAwake) : SigOk Tb (cfgAt b84) := SigOk.next (l := b83) h (f := 12) (sg := ⟨[], [.cell (.bool) false]⟩) rfl j_aAwake hv
end Go.Sx.N
