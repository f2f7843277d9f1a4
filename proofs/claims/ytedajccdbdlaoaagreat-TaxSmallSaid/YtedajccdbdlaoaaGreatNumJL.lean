/-
  The conditions are what the executor says. Conditions: none; printed by a program of our own.
-/
import Derived.Test.YtedajccdbdlaoaaGreatNumT
import Derived.Test.YtedajccdbdlaoaaGreatNumVL
import Derived.KernelRfl
namespace Go.Sx.N
open Go.Proofs
theorem j_fits : (vc (A := sem Tb) (cfgAt b108) 6 14 ⟨[.cell (.sl 42) false], [.cell (.bool) false]⟩).den = V_fits := by kernel_rfl
theorem s_fits (h : SigOk Tb (cfgAt b108)) (hv : V_fits) : SigOk Tb (cfgAt b109) := SigOk.next (l := b108) h (f := 14) (sg := ⟨[.cell (.sl 42) false], [.cell (.bool) false]⟩) rfl j_fits hv
theorem j_example : (vc (A := sem Tb) (cfgAt b109) 6 44 ⟨[], [.cell (.sl 42) false]⟩).den = V_example := by kernel_rfl
theorem s_example (h : SigOk Tb (cfgAt b109)) (hv : V_example) : SigOk Tb (cfgAt b110) := SigOk.next (l := b109) h (f := 44) (sg := ⟨[], [.cell (.sl 42) false]⟩) rfl j_example hv
theorem j_awake : (vc (A := sem Tb) (cfgAt b110) 6 16 ⟨[], [.cell (.bool) false]⟩).den = V_awake := by kernel_rfl
theorem s_awake (h : SigOk Tb (cfgAt b110)) (hv : V_awake) : SigOk Tb (cfgAt b111) := SigOk.next (l := b110) h (f := 16) (sg := ⟨[], [.cell (.bool) false]⟩) rfl j_awake hv
theorem j_given : (vc (A := sem Tb) (cfgAt b111) 6 40 ⟨[.cell (.sl 42) false], [.cell (.sl 122) false]⟩).den = V_given := by kernel_rfl
theorem s_given (h : SigOk Tb (cfgAt b111)) (hv : V_given) : SigOk Tb (cfgAt b112) := SigOk.next (l := b111) h (f := 40) (sg := ⟨[.cell (.sl 42) false], [.cell (.sl 122) false]⟩) rfl j_given hv
theorem j_same : (vc (A := sem Tb) (cfgAt b112) 6 36 ⟨[.cell (.sl 42) false, .cell (.sl 122) false], [.cell (.bool) false]⟩).den = V_same := by kernel_rfl
theorem s_same (h : SigOk Tb (cfgAt b112)) (hv : V_same) : SigOk Tb (cfgAt b113) := SigOk.next (l := b112) h (f := 36) (sg := ⟨[.cell (.sl 42) false, .cell (.sl 122) false], [.cell (.bool) false]⟩) rfl j_same hv
theorem j_copied : (vc (A := sem Tb) (cfgAt b113) 6 38 ⟨[.cell (.sl 42) false], [.cell (.sl 42) true]⟩).den = V_copied := by kernel_rfl
theorem s_copied (h : SigOk Tb (cfgAt b113)) (hv : V_copied) : SigOk Tb (cfgAt b114) := SigOk.next (l := b113) h (f := 38) (sg := ⟨[.cell (.sl 42) false], [.cell (.sl 42) true]⟩) rfl j_copied hv
theorem j_tells : (vc (A := sem Tb) (cfgAt b114) 6 15 ⟨[.cell (.sl 42) false, .cell (.int .i64) false, .cell (.int .i64) false], [.cell (.bool) false]⟩).den = V_tells := by kernel_rfl
theorem s_tells (h : SigOk Tb (cfgAt b114)) (hv : V_tells) : SigOk Tb (cfgAt b115) := SigOk.next (l := b114) h (f := 15) (sg := ⟨[.cell (.sl 42) false, .cell (.int .i64) false, .cell (.int .i64) false], [.cell (.bool) false]⟩) rfl j_tells hv
theorem j_scales : (vc (A := sem Tb) (cfgAt b115) 6 17 ⟨[.cell (.sl 48) false], [.cell (.sl 84) false, .cell (.bool) false]⟩).den = V_scales := by kernel_rfl
theorem s_scales (h : SigOk Tb (cfgAt b115)) (hv : V_scales) : SigOk Tb (cfgAt b116) := SigOk.next (l := b115) h (f := 17) (sg := ⟨[.cell (.sl 48) false], [.cell (.sl 84) false, .cell (.bool) false]⟩) rfl j_scales hv
theorem j_withholds : (vc (A := sem Tb) (cfgAt b116) 6 18 ⟨[.cell (.sl 48) false, .cell (.sl 84) false, .agg [(.int .i64, false), (.int .i64, false), (.int .i64, false)], .cell (.sl 50) false], [.cell (.bool) false]⟩).den = V_withholds := by kernel_rfl
theorem s_withholds (h : SigOk Tb (cfgAt b116)) (hv : V_withholds) : SigOk Tb (cfgAt b117) := SigOk.next (l := b116) h (f := 18) (sg := ⟨[.cell (.sl 48) false, .cell (.sl 84) false, .agg [(.int .i64, false), (.int .i64, false), (.int .i64, false)], .cell (.sl 50) false], [.cell (.bool) false]⟩) rfl j_withholds hv
theorem j_below : (vc (A := sem Tb) (cfgAt b117) 6 29 ⟨[.agg [(.bool, false), (.sl 45, false), (.bool, false), (.sl 45, false)]], [.cell (.int .i64) false]⟩).den = V_below := by kernel_rfl
theorem s_below (h : SigOk Tb (cfgAt b117)) (hv : V_below) : SigOk Tb (cfgAt b118) := SigOk.next (l := b117) h (f := 29) (sg := ⟨[.agg [(.bool, false), (.sl 45, false), (.bool, false), (.sl 45, false)]], [.cell (.int .i64) false]⟩) rfl j_below hv
end Go.Sx.N
