/-
  The conditions are what the executor says. Conditions: none; printed by a program of our own.
-/
import Derived.Test.YtmhhcnaflklapaaGreatNumT
import Derived.Test.YtmhhcnaflklapaaGreatNumVH
import Derived.KernelRfl
namespace Go.Sx.N
open Go.Proofs
theorem j_kWhole : (vc (A := sem Tb) (cfgAt b49) 6 71 ⟨[.cell (.int .i64) false], [.agg [(.bool, false), (.sl 33, false)]]⟩).den = V_kWhole := by kernel_rfl
theorem s_kWhole (h : SigOk Tb (cfgAt b49)) (hv : V_kWhole) : SigOk Tb (cfgAt b50) := SigOk.next (l := b49) h (f := 71) (sg := ⟨[.cell (.int .i64) false], [.agg [(.bool, false), (.sl 33, false)]]⟩) rfl j_kWhole hv
theorem j_kFrac : (vc (A := sem Tb) (cfgAt b50) 6 38 ⟨[.cell (.int .i64) false, .cell (.int .i64) false], [.agg [(.bool, false), (.sl 33, false), (.bool, false), (.sl 33, false)]]⟩).den = V_kFrac := by kernel_rfl
theorem s_kFrac (h : SigOk Tb (cfgAt b50)) (hv : V_kFrac) : SigOk Tb (cfgAt b51) := SigOk.next (l := b50) h (f := 38) (sg := ⟨[.cell (.int .i64) false, .cell (.int .i64) false], [.agg [(.bool, false), (.sl 33, false), (.bool, false), (.sl 33, false)]]⟩) rfl j_kFrac hv
theorem j_cmpI : (vc (A := sem Tb) (cfgAt b51) 6 97 ⟨[.cell (.int .i64) false, .cell (.int .i64) false], [.cell (.int .i64) false]⟩).den = V_cmpI := by kernel_rfl
theorem s_cmpI (h : SigOk Tb (cfgAt b51)) (hv : V_cmpI) : SigOk Tb (cfgAt b52) := SigOk.next (l := b51) h (f := 97) (sg := ⟨[.cell (.int .i64) false, .cell (.int .i64) false], [.cell (.int .i64) false]⟩) rfl j_cmpI hv
theorem j_cmpOr : (vc (A := sem Tb) (cfgAt b52) 6 96 ⟨[.cell (.sl 3) false], [.cell (.int .i64) false]⟩).den = V_cmpOr := by kernel_rfl
theorem s_cmpOr (h : SigOk Tb (cfgAt b52)) (hv : V_cmpOr) : SigOk Tb (cfgAt b53) := SigOk.next (l := b52) h (f := 96) (sg := ⟨[.cell (.sl 3) false], [.cell (.int .i64) false]⟩) rfl j_cmpOr hv
theorem j_tCompare : (vc (A := sem Tb) (cfgAt b53) 6 60 ⟨[.agg [(.int .i64, false), (.int .i64, false), (.int .i64, false), (.bool, false), (.sl 33, false), (.bool, false), (.sl 33, false)], .agg [(.int .i64, false), (.int .i64, false), (.int .i64, false), (.bool, false), (.sl 33, false), (.bool, false), (.sl 33, false)]], [.cell (.int .i64) false]⟩).den = V_tCompare := by kernel_rfl
theorem s_tCompare (h : SigOk Tb (cfgAt b53)) (hv : V_tCompare) : SigOk Tb (cfgAt b54) := SigOk.next (l := b53) h (f := 60) (sg := ⟨[.agg [(.int .i64, false), (.int .i64, false), (.int .i64, false), (.bool, false), (.sl 33, false), (.bool, false), (.sl 33, false)], .agg [(.int .i64, false), (.int .i64, false), (.int .i64, false), (.bool, false), (.sl 33, false), (.bool, false), (.sl 33, false)]], [.cell (.int .i64) false]⟩) rfl j_tCompare hv
theorem j_Right : (vc (A := sem Tb) (cfgAt b54) 6 63 ⟨[.cell (.bool) false, .agg [(.int .i64, false), (.int .i64, false), (.int .i64, false), (.bool, false), (.sl 33, false), (.bool, false), (.sl 33, false)]], [.cell (.bool) false]⟩).den = V_Right := by kernel_rfl
theorem s_Right (h : SigOk Tb (cfgAt b54)) (hv : V_Right) : SigOk Tb (cfgAt b55) := SigOk.next (l := b54) h (f := 63) (sg := ⟨[.cell (.bool) false, .agg [(.int .i64, false), (.int .i64, false), (.int .i64, false), (.bool, false), (.sl 33, false), (.bool, false), (.sl 33, false)]], [.cell (.bool) false]⟩) rfl j_Right hv
theorem j_tValid : (vc (A := sem Tb) (cfgAt b55) 6 33 ⟨[.agg [(.str, false), (.bool, false), (.sl 41, false)]], [.cell (.bool) false]⟩).den = V_tValid := by kernel_rfl
theorem s_tValid (h : SigOk Tb (cfgAt b55)) (hv : V_tValid) : SigOk Tb (cfgAt b56) := SigOk.next (l := b55) h (f := 33) (sg := ⟨[.agg [(.str, false), (.bool, false), (.sl 41, false)]], [.cell (.bool) false]⟩) rfl j_tValid hv
theorem j_copied : (vc (A := sem Tb) (cfgAt b56) 6 152 ⟨[.agg [(.bool, false), (.sl 33, false), (.bool, false), (.sl 33, false)]], [.agg [(.bool, false), (.sl 33, false), (.bool, false), (.sl 33, false)]]⟩).den = V_copied := by kernel_rfl
theorem s_copied (h : SigOk Tb (cfgAt b56)) (hv : V_copied) : SigOk Tb (cfgAt b57) := SigOk.next (l := b56) h (f := 152) (sg := ⟨[.agg [(.bool, false), (.sl 33, false), (.bool, false), (.sl 33, false)]], [.agg [(.bool, false), (.sl 33, false), (.bool, false), (.sl 33, false)]]⟩) rfl j_copied hv
theorem j_forced : (vc (A := sem Tb) (cfgAt b57) 6 150 ⟨[.agg [(.str, false), (.bool, false), (.sl 41, false)], .cell (.int .i64) false], [.cell (.sl 41) true]⟩).den = V_forced := by kernel_rfl
theorem s_forced (h : SigOk Tb (cfgAt b57)) (hv : V_forced) : SigOk Tb (cfgAt b58) := SigOk.next (l := b57) h (f := 150) (sg := ⟨[.agg [(.str, false), (.bool, false), (.sl 41, false)], .cell (.int .i64) false], [.cell (.sl 41) true]⟩) rfl j_forced hv
theorem j_Look : (vc (A := sem Tb) (cfgAt b58) 6 126 ⟨[.agg [(.str, false), (.bool, false), (.sl 41, false)], .cell (.int .i64) false, .cell (.int .i64) false], [.agg [(.bool, false), (.sl 33, false), (.bool, false), (.sl 33, false)], .cell (.int .i64) false]⟩).den = V_Look := by kernel_rfl
theorem s_Look (h : SigOk Tb (cfgAt b58)) (hv : V_Look) : SigOk Tb (cfgAt b59) := SigOk.next (l := b58) h (f := 126) (sg := ⟨[.agg [(.str, false), (.bool, false), (.sl 41, false)], .cell (.int .i64) false, .cell (.int .i64) false], [.agg [(.bool, false), (.sl 33, false), (.bool, false), (.sl 33, false)], .cell (.int .i64) false]⟩) rfl j_Look hv
end Go.Sx.N
