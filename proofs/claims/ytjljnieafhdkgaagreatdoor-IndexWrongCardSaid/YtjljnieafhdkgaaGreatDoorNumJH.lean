/-
  The conditions are what the executor says. Conditions: none; printed by a program of our own.
-/
import Derived.Test.YtjljnieafhdkgaaGreatDoorNumT
import Derived.Test.YtjljnieafhdkgaaGreatDoorNumVH
import Derived.KernelRfl
namespace Go.Sx.N
open Go.Proofs
theorem j_cLeap : (vc (A := sem Tb) (cfgAt b59) 6 68 ⟨[.cell (.int .i64) false], [.cell (.bool) false]⟩).den = V_cLeap := by kernel_rfl
theorem s_cLeap (h : SigOk Tb (cfgAt b59)) (hv : V_cLeap) : SigOk Tb (cfgAt b60) := SigOk.next (l := b59) h (f := 68) (sg := ⟨[.cell (.int .i64) false], [.cell (.bool) false]⟩) rfl j_cLeap hv
theorem j_cLeaps : (vc (A := sem Tb) (cfgAt b60) 6 69 ⟨[.cell (.int .i64) false], [.cell (.int .i64) false]⟩).den = V_cLeaps := by kernel_rfl
theorem s_cLeaps (h : SigOk Tb (cfgAt b60)) (hv : V_cLeaps) : SigOk Tb (cfgAt b61) := SigOk.next (l := b60) h (f := 69) (sg := ⟨[.cell (.int .i64) false], [.cell (.int .i64) false]⟩) rfl j_cLeaps hv
theorem j_cLen : (vc (A := sem Tb) (cfgAt b61) 6 40 ⟨[.cell (.int .i64) false, .cell (.int .i64) false], [.cell (.int .i64) false]⟩).den = V_cLen := by kernel_rfl
theorem s_cLen (h : SigOk Tb (cfgAt b61)) (hv : V_cLen) : SigOk Tb (cfgAt b62) := SigOk.next (l := b61) h (f := 40) (sg := ⟨[.cell (.int .i64) false, .cell (.int .i64) false], [.cell (.int .i64) false]⟩) rfl j_cLen hv
theorem j_cStart : (vc (A := sem Tb) (cfgAt b62) 6 41 ⟨[.cell (.int .i64) false], [.cell (.int .i64) false]⟩).den = V_cStart := by kernel_rfl
theorem s_cStart (h : SigOk Tb (cfgAt b62)) (hv : V_cStart) : SigOk Tb (cfgAt b63) := SigOk.next (l := b62) h (f := 41) (sg := ⟨[.cell (.int .i64) false], [.cell (.int .i64) false]⟩) rfl j_cStart hv
theorem j_cIsDate : (vc (A := sem Tb) (cfgAt b63) 6 42 ⟨[.cell (.int .i64) false], [.cell (.bool) false]⟩).den = V_cIsDate := by kernel_rfl
theorem s_cIsDate (h : SigOk Tb (cfgAt b63)) (hv : V_cIsDate) : SigOk Tb (cfgAt b64) := SigOk.next (l := b63) h (f := 42) (sg := ⟨[.cell (.int .i64) false], [.cell (.bool) false]⟩) rfl j_cIsDate hv
theorem j_cDay : (vc (A := sem Tb) (cfgAt b64) 6 16 ⟨[.cell (.int .i64) false, .cell (.int .i64) false, .cell (.int .i64) false], [.cell (.int .i64) false, .cell (.int .i64) false]⟩).den = V_cDay := by kernel_rfl
theorem s_cDay (h : SigOk Tb (cfgAt b64)) (hv : V_cDay) : SigOk Tb (cfgAt b65) := SigOk.next (l := b64) h (f := 16) (sg := ⟨[.cell (.int .i64) false, .cell (.int .i64) false, .cell (.int .i64) false], [.cell (.int .i64) false, .cell (.int .i64) false]⟩) rfl j_cDay hv
theorem j_isSpan : (vc (A := sem Tb) (cfgAt b65) 6 33 ⟨[.cell (.int .i64) false, .cell (.int .i64) false], [.cell (.bool) false]⟩).den = V_isSpan := by kernel_rfl
theorem s_isSpan (h : SigOk Tb (cfgAt b65)) (hv : V_isSpan) : SigOk Tb (cfgAt b66) := SigOk.next (l := b65) h (f := 33) (sg := ⟨[.cell (.int .i64) false, .cell (.int .i64) false], [.cell (.bool) false]⟩) rfl j_isSpan hv
theorem j_xYears : (vc (A := sem Tb) (cfgAt b66) 6 23 ⟨[.cell (.int .i64) false, .cell (.int .i64) false], [.cell (.sl 3) true, .cell (.int .i64) false]⟩).den = V_xYears := by kernel_rfl
theorem s_xYears (h : SigOk Tb (cfgAt b66)) (hv : V_xYears) : SigOk Tb (cfgAt b67) := SigOk.next (l := b66) h (f := 23) (sg := ⟨[.cell (.int .i64) false, .cell (.int .i64) false], [.cell (.sl 3) true, .cell (.int .i64) false]⟩) rfl j_xYears hv
theorem j_xGrow : (vc (A := sem Tb) (cfgAt b67) 6 14 ⟨[.agg [(.str, false), (.bool, false), (.sl 56, false)], .cell (.int .i64) false, .cell (.int .i64) false, .cell (.int .i64) false], [.agg [(.bool, false), (.sl 52, false), (.bool, false), (.sl 52, false)], .cell (.int .i64) false]⟩).den = V_xGrow := by kernel_rfl
theorem s_xGrow (h : SigOk Tb (cfgAt b67)) (hv : V_xGrow) : SigOk Tb (cfgAt b68) := SigOk.next (l := b67) h (f := 14) (sg := ⟨[.agg [(.str, false), (.bool, false), (.sl 56, false)], .cell (.int .i64) false, .cell (.int .i64) false, .cell (.int .i64) false], [.agg [(.bool, false), (.sl 52, false), (.bool, false), (.sl 52, false)], .cell (.int .i64) false]⟩) rfl j_xGrow hv
theorem j_xRaise : (vc (A := sem Tb) (cfgAt b68) 6 26 ⟨[.agg [(.bool, false), (.sl 52, false), (.bool, false), (.sl 52, false)], .agg [(.str, false), (.bool, false), (.sl 56, false)], .cell (.int .i64) false, .cell (.int .i64) false, .cell (.int .i64) false], [.agg [(.bool, false), (.sl 52, false), (.bool, false), (.sl 52, false)], .cell (.int .i64) false]⟩).den = V_xRaise := by kernel_rfl
theorem s_xRaise (h : SigOk Tb (cfgAt b68)) (hv : V_xRaise) : SigOk Tb (cfgAt b69) := SigOk.next (l := b68) h (f := 26) (sg := ⟨[.agg [(.bool, false), (.sl 52, false), (.bool, false), (.sl 52, false)], .agg [(.str, false), (.bool, false), (.sl 56, false)], .cell (.int .i64) false, .cell (.int .i64) false, .cell (.int .i64) false], [.agg [(.bool, false), (.sl 52, false), (.bool, false), (.sl 52, false)], .cell (.int .i64) false]⟩) rfl j_xRaise hv
theorem j_xLower : (vc (A := sem Tb) (cfgAt b69) 6 27 ⟨[.agg [(.bool, false), (.sl 52, false), (.bool, false), (.sl 52, false)], .agg [(.str, false), (.bool, false), (.sl 56, false)], .cell (.int .i64) false, .cell (.int .i64) false, .cell (.int .i64) false], [.agg [(.bool, false), (.sl 52, false), (.bool, false), (.sl 52, false)], .cell (.int .i64) false]⟩).den = V_xLower := by kernel_rfl
theorem s_xLower (h : SigOk Tb (cfgAt b69)) (hv : V_xLower) : SigOk Tb (cfgAt b70) := SigOk.next (l := b69) h (f := 27) (sg := ⟨[.agg [(.bool, false), (.sl 52, false), (.bool, false), (.sl 52, false)], .agg [(.str, false), (.bool, false), (.sl 56, false)], .cell (.int .i64) false, .cell (.int .i64) false, .cell (.int .i64) false], [.agg [(.bool, false), (.sl 52, false), (.bool, false), (.sl 52, false)], .cell (.int .i64) false]⟩) rfl j_xLower hv
end Go.Sx.N
