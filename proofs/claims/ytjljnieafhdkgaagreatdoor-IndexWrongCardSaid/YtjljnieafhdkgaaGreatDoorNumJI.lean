/-
  The conditions are what the executor says. Conditions: none; printed by a program of our own.
-/
import Derived.Test.YtjljnieafhdkgaaGreatDoorNumT
import Derived.Test.YtjljnieafhdkgaaGreatDoorNumVI
import Derived.KernelRfl
namespace Go.Sx.N
open Go.Proofs
theorem j_kSameInts : (vc (A := sem Tb) (cfgAt b70) 6 24 ⟨[.cell (.sl 3) false, .cell (.sl 3) false], [.cell (.bool) false]⟩).den = V_kSameInts := by kernel_rfl
theorem s_kSameInts (h : SigOk Tb (cfgAt b70)) (hv : V_kSameInts) : SigOk Tb (cfgAt b71) := SigOk.next (l := b70) h (f := 24) (sg := ⟨[.cell (.sl 3) false, .cell (.sl 3) false], [.cell (.bool) false]⟩) rfl j_kSameInts hv
theorem j_rLeap3 : (vc (A := sem Tb) (cfgAt b71) 6 91 ⟨[.cell (.int .i64) false], [.cell (.bool) false]⟩).den = V_rLeap3 := by kernel_rfl
theorem s_rLeap3 (h : SigOk Tb (cfgAt b71)) (hv : V_rLeap3) : SigOk Tb (cfgAt b72) := SigOk.next (l := b71) h (f := 91) (sg := ⟨[.cell (.int .i64) false], [.cell (.bool) false]⟩) rfl j_rLeap3 hv
theorem j_rLen3 : (vc (A := sem Tb) (cfgAt b72) 6 90 ⟨[.cell (.int .i64) false, .cell (.int .i64) false], [.cell (.int .i64) false]⟩).den = V_rLen3 := by kernel_rfl
theorem s_rLen3 (h : SigOk Tb (cfgAt b72)) (hv : V_rLen3) : SigOk Tb (cfgAt b73) := SigOk.next (l := b72) h (f := 90) (sg := ⟨[.cell (.int .i64) false, .cell (.int .i64) false], [.cell (.int .i64) false]⟩) rfl j_rLen3 hv
theorem j_rDay : (vc (A := sem Tb) (cfgAt b73) 6 62 ⟨[.cell (.int .i64) false, .cell (.int .i64) false, .cell (.int .i64) false], [.cell (.int .i64) false, .cell (.int .i64) false]⟩).den = V_rDay := by kernel_rfl
theorem s_rDay (h : SigOk Tb (cfgAt b73)) (hv : V_rDay) : SigOk Tb (cfgAt b74) := SigOk.next (l := b73) h (f := 62) (sg := ⟨[.cell (.int .i64) false, .cell (.int .i64) false, .cell (.int .i64) false], [.cell (.int .i64) false, .cell (.int .i64) false]⟩) rfl j_rDay hv
theorem j_rYears : (vc (A := sem Tb) (cfgAt b74) 6 30 ⟨[.cell (.int .i64) false, .cell (.int .i64) false], [.cell (.sl 3) true, .cell (.int .i64) false]⟩).den = V_rYears := by kernel_rfl
theorem s_rYears (h : SigOk Tb (cfgAt b74)) (hv : V_rYears) : SigOk Tb (cfgAt b75) := SigOk.next (l := b74) h (f := 30) (sg := ⟨[.cell (.int .i64) false, .cell (.int .i64) false], [.cell (.sl 3) true, .cell (.int .i64) false]⟩) rfl j_rYears hv
theorem j_iRow : (vc (A := sem Tb) (cfgAt b75) 6 28 ⟨[.cell (.int .i64) false, .cell (.int .i64) false, .cell (.int .i64) false, .cell (.int .i64) false], [.agg [(.int .i64, false), (.int .i64, false), (.int .i64, false), (.bool, false), (.sl 52, false), (.bool, false), (.sl 52, false)]]⟩).den = V_iRow := by kernel_rfl
theorem s_iRow (h : SigOk Tb (cfgAt b75)) (hv : V_iRow) : SigOk Tb (cfgAt b76) := SigOk.next (l := b75) h (f := 28) (sg := ⟨[.cell (.int .i64) false, .cell (.int .i64) false, .cell (.int .i64) false, .cell (.int .i64) false], [.agg [(.int .i64, false), (.int .i64, false), (.int .i64, false), (.bool, false), (.sl 52, false), (.bool, false), (.sl 52, false)]]⟩) rfl j_iRow hv
theorem j_cpi : (vc (A := sem Tb) (cfgAt b76) 6 31 ⟨[], [.agg [(.str, false), (.bool, false), (.sl 56, false)]]⟩).den = V_cpi := by kernel_rfl
theorem s_cpi (h : SigOk Tb (cfgAt b76)) (hv : V_cpi) : SigOk Tb (cfgAt b77) := SigOk.next (l := b76) h (f := 31) (sg := ⟨[], [.agg [(.str, false), (.bool, false), (.sl 56, false)]]⟩) rfl j_cpi hv
theorem j_iOne : (vc (A := sem Tb) (cfgAt b77) 6 15 ⟨[], [.agg [(.bool, false), (.sl 52, false), (.bool, false), (.sl 52, false)]]⟩).den = V_iOne := by kernel_rfl
theorem s_iOne (h : SigOk Tb (cfgAt b77)) (hv : V_iOne) : SigOk Tb (cfgAt b78) := SigOk.next (l := b77) h (f := 15) (sg := ⟨[], [.agg [(.bool, false), (.sl 52, false), (.bool, false), (.sl 52, false)]]⟩) rfl j_iOne hv
theorem j_xAwake : (vc (A := sem Tb) (cfgAt b78) 6 11 ⟨[], [.cell (.bool) false]⟩).den = V_xAwake := by kernel_rfl
theorem s_xAwake (h : SigOk Tb (cfgAt b78)) (hv : V_xAwake) : SigOk Tb (cfgAt b79) := SigOk.next (l := b78) h (f := 11) (sg := ⟨[], [.cell (.bool) false]⟩) rfl j_xAwake hv
theorem j_yearsL : (vc (A := sem Tb) (cfgAt b79) 6 10 ⟨[.cell (.int .i64) false, .cell (.int .i64) false], [.cell (.bool) false]⟩).den = V_yearsL := by kernel_rfl
theorem s_yearsL (h : SigOk Tb (cfgAt b79)) (hv : V_yearsL) : SigOk Tb (cfgAt b80) := SigOk.next (l := b79) h (f := 10) (sg := ⟨[.cell (.int .i64) false, .cell (.int .i64) false], [.cell (.bool) false]⟩) rfl j_yearsL hv
theorem j_iBuilt : (vc (A := sem Tb) (cfgAt b80) 6 12 ⟨[.cell (.sl 52) false], [.agg [(.str, false), (.bool, false), (.sl 56, true)]]⟩).den = V_iBuilt := by kernel_rfl
theorem s_iBuilt (h : SigOk Tb (cfgAt b80)) (hv : V_iBuilt) : SigOk Tb (cfgAt b81) := SigOk.next (l := b80) h (f := 12) (sg := ⟨[.cell (.sl 52) false], [.agg [(.str, false), (.bool, false), (.sl 56, true)]]⟩) rfl j_iBuilt hv
theorem j_asked : (vc (A := sem Tb) (cfgAt b81) 6 13 ⟨[.cell (.int .i64) false, .cell (.int .i64) false], [.cell (.int .i64) false, .cell (.int .i64) false]⟩).den = V_asked := by kernel_rfl
theorem s_asked (h : SigOk Tb (cfgAt b81)) (hv : V_asked) : SigOk Tb (cfgAt b82) := SigOk.next (l := b81) h (f := 13) (sg := ⟨[.cell (.int .i64) false, .cell (.int .i64) false], [.cell (.int .i64) false, .cell (.int .i64) false]⟩) rfl j_asked hv
end Go.Sx.N
