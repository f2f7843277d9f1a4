/-
  The conditions are what the executor says. Conditions: none; printed by a program of our own.
-/
import Derived.Test.YtjbknheeiaaioaaNumT
import Derived.Test.YtjbknheeiaaioaaNumVG
import Derived.KernelRfl
namespace Go.Sx.N
open Go.Proofs
theorem j_kWhole : (vc (A := sem Tb) (cfgAt b28) 6 43 ⟨[.cell (.int .i64) false], [.agg [(.bool, false), (.sl 50, false)]]⟩).den = V_kWhole := by kernel_rfl
theorem s_kWhole (h : SigOk Tb (cfgAt b28)) (hv : V_kWhole) : SigOk Tb (cfgAt b29) := SigOk.next (l := b28) h (f := 43) (sg := ⟨[.cell (.int .i64) false], [.agg [(.bool, false), (.sl 50, false)]]⟩) rfl j_kWhole hv
theorem j_kFrac : (vc (A := sem Tb) (cfgAt b29) 6 22 ⟨[.cell (.int .i64) false, .cell (.int .i64) false], [.agg [(.bool, false), (.sl 50, false), (.bool, false), (.sl 50, false)]]⟩).den = V_kFrac := by kernel_rfl
theorem s_kFrac (h : SigOk Tb (cfgAt b29)) (hv : V_kFrac) : SigOk Tb (cfgAt b30) := SigOk.next (l := b29) h (f := 22) (sg := ⟨[.cell (.int .i64) false, .cell (.int .i64) false], [.agg [(.bool, false), (.sl 50, false), (.bool, false), (.sl 50, false)]]⟩) rfl j_kFrac hv
theorem j_kLimbs : (vc (A := sem Tb) (cfgAt b30) 6 14 ⟨[.agg [(.bool, false), (.sl 50, false), (.bool, false), (.sl 50, false)]], [.cell (.int .i64) false]⟩).den = V_kLimbs := by kernel_rfl
theorem s_kLimbs (h : SigOk Tb (cfgAt b30)) (hv : V_kLimbs) : SigOk Tb (cfgAt b31) := SigOk.next (l := b30) h (f := 14) (sg := ⟨[.agg [(.bool, false), (.sl 50, false), (.bool, false), (.sl 50, false)]], [.cell (.int .i64) false]⟩) rfl j_kLimbs hv
theorem j_cmpI : (vc (A := sem Tb) (cfgAt b31) 6 52 ⟨[.cell (.int .i64) false, .cell (.int .i64) false], [.cell (.int .i64) false]⟩).den = V_cmpI := by kernel_rfl
theorem s_cmpI (h : SigOk Tb (cfgAt b31)) (hv : V_cmpI) : SigOk Tb (cfgAt b32) := SigOk.next (l := b31) h (f := 52) (sg := ⟨[.cell (.int .i64) false, .cell (.int .i64) false], [.cell (.int .i64) false]⟩) rfl j_cmpI hv
theorem j_cmpOr : (vc (A := sem Tb) (cfgAt b32) 6 51 ⟨[.cell (.sl 3) false], [.cell (.int .i64) false]⟩).den = V_cmpOr := by kernel_rfl
theorem s_cmpOr (h : SigOk Tb (cfgAt b32)) (hv : V_cmpOr) : SigOk Tb (cfgAt b33) := SigOk.next (l := b32) h (f := 51) (sg := ⟨[.cell (.sl 3) false], [.cell (.int .i64) false]⟩) rfl j_cmpOr hv
theorem j_tCompare : (vc (A := sem Tb) (cfgAt b33) 6 35 ⟨[.agg [(.int .i64, false), (.int .i64, false), (.int .i64, false), (.bool, false), (.sl 50, false), (.bool, false), (.sl 50, false)], .agg [(.int .i64, false), (.int .i64, false), (.int .i64, false), (.bool, false), (.sl 50, false), (.bool, false), (.sl 50, false)]], [.cell (.int .i64) false]⟩).den = V_tCompare := by kernel_rfl
theorem s_tCompare (h : SigOk Tb (cfgAt b33)) (hv : V_tCompare) : SigOk Tb (cfgAt b34) := SigOk.next (l := b33) h (f := 35) (sg := ⟨[.agg [(.int .i64, false), (.int .i64, false), (.int .i64, false), (.bool, false), (.sl 50, false), (.bool, false), (.sl 50, false)], .agg [(.int .i64, false), (.int .i64, false), (.int .i64, false), (.bool, false), (.sl 50, false), (.bool, false), (.sl 50, false)]], [.cell (.int .i64) false]⟩) rfl j_tCompare hv
theorem j_Right : (vc (A := sem Tb) (cfgAt b34) 6 23 ⟨[.cell (.bool) false, .agg [(.int .i64, false), (.int .i64, false), (.int .i64, false), (.bool, false), (.sl 50, false), (.bool, false), (.sl 50, false)]], [.cell (.bool) false]⟩).den = V_Right := by kernel_rfl
theorem s_Right (h : SigOk Tb (cfgAt b34)) (hv : V_Right) : SigOk Tb (cfgAt b35) := SigOk.next (l := b34) h (f := 23) (sg := ⟨[.cell (.bool) false, .agg [(.int .i64, false), (.int .i64, false), (.int .i64, false), (.bool, false), (.sl 50, false), (.bool, false), (.sl 50, false)]], [.cell (.bool) false]⟩) rfl j_Right hv
theorem j_tValid : (vc (A := sem Tb) (cfgAt b35) 6 16 ⟨[.agg [(.str, false), (.bool, false), (.sl 40, false)]], [.cell (.bool) false]⟩).den = V_tValid := by kernel_rfl
theorem s_tValid (h : SigOk Tb (cfgAt b35)) (hv : V_tValid) : SigOk Tb (cfgAt b36) := SigOk.next (l := b35) h (f := 16) (sg := ⟨[.agg [(.str, false), (.bool, false), (.sl 40, false)]], [.cell (.bool) false]⟩) rfl j_tValid hv
theorem j_copied : (vc (A := sem Tb) (cfgAt b36) 6 29 ⟨[.agg [(.bool, false), (.sl 50, false), (.bool, false), (.sl 50, false)]], [.agg [(.bool, false), (.sl 50, false), (.bool, false), (.sl 50, false)]]⟩).den = V_copied := by kernel_rfl
theorem s_copied (h : SigOk Tb (cfgAt b36)) (hv : V_copied) : SigOk Tb (cfgAt b37) := SigOk.next (l := b36) h (f := 29) (sg := ⟨[.agg [(.bool, false), (.sl 50, false), (.bool, false), (.sl 50, false)]], [.agg [(.bool, false), (.sl 50, false), (.bool, false), (.sl 50, false)]]⟩) rfl j_copied hv
theorem j_forced : (vc (A := sem Tb) (cfgAt b37) 6 27 ⟨[.agg [(.str, false), (.bool, false), (.sl 40, false)], .cell (.int .i64) false], [.cell (.sl 40) true]⟩).den = V_forced := by kernel_rfl
theorem s_forced (h : SigOk Tb (cfgAt b37)) (hv : V_forced) : SigOk Tb (cfgAt b38) := SigOk.next (l := b37) h (f := 27) (sg := ⟨[.agg [(.str, false), (.bool, false), (.sl 40, false)], .cell (.int .i64) false], [.cell (.sl 40) true]⟩) rfl j_forced hv
theorem j_View : (vc (A := sem Tb) (cfgAt b38) 6 15 ⟨[.agg [(.str, false), (.bool, false), (.sl 40, false)], .cell (.int .i64) false], [.agg [(.str, false), (.bool, false), (.sl 40, false)], .cell (.int .i64) false]⟩).den = V_View := by kernel_rfl
theorem s_View (h : SigOk Tb (cfgAt b38)) (hv : V_View) : SigOk Tb (cfgAt b39) := SigOk.next (l := b38) h (f := 15) (sg := ⟨[.agg [(.str, false), (.bool, false), (.sl 40, false)], .cell (.int .i64) false], [.agg [(.str, false), (.bool, false), (.sl 40, false)], .cell (.int .i64) false]⟩) rfl j_View hv
theorem j_Look : (vc (A := sem Tb) (cfgAt b39) 6 10 ⟨[.agg [(.str, false), (.bool, false), (.sl 40, false)], .cell (.int .i64) false, .cell (.int .i64) false], [.agg [(.bool, false), (.sl 50, false), (.bool, false), (.sl 50, false)], .cell (.int .i64) false]⟩).den = V_Look := by kernel_rfl
theorem s_Look (h : SigOk Tb (cfgAt b39)) (hv : V_Look) : SigOk Tb (cfgAt b40) := SigOk.next (l := b39) h (f := 10) (sg := ⟨[.agg [(.str, false), (.bool, false), (.sl 40, false)], .cell (.int .i64) false, .cell (.int .i64) false], [.agg [(.bool, false), (.sl 50, false), (.bool, false), (.sl 50, false)], .cell (.int .i64) false]⟩) rfl j_Look hv
theorem j_LookTwo : (vc (A := sem Tb) (cfgAt b40) 6 11 ⟨[.agg [(.str, false), (.bool, false), (.sl 40, false)], .cell (.int .i64) false, .cell (.int .i64) false, .cell (.int .i64) false], [.agg [(.bool, false), (.sl 50, false), (.bool, false), (.sl 50, false)], .cell (.int .i64) false]⟩).den = V_LookTwo := by kernel_rfl
theorem s_LookTwo (h : SigOk Tb (cfgAt b40)) (hv : V_LookTwo) : SigOk Tb (cfgAt b41) := SigOk.next (l := b40) h (f := 11) (sg := ⟨[.agg [(.str, false), (.bool, false), (.sl 40, false)], .cell (.int .i64) false, .cell (.int .i64) false, .cell (.int .i64) false], [.agg [(.bool, false), (.sl 50, false), (.bool, false), (.sl 50, false)], .cell (.int .i64) false]⟩) rfl j_LookTwo hv
end Go.Sx.N
