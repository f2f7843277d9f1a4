/-
  The conditions are what the executor says. Conditions: none; printed by a program of our own.
-/
import Derived.Test.YtedajccdbdlaoaaGreatNumT
import Derived.Test.YtedajccdbdlaoaaGreatNumVT
import Derived.KernelRfl
namespace Go.Sx.N
open Go.Proofs
theorem j_isAmount : (vc (A := sem Tb) (cfgAt b91) 6 52 ⟨[.cell (.int .i64) false], [.cell (.bool) false]⟩).den = V_isAmount := by kernel_rfl
theorem s_isAmount (h : SigOk Tb (cfgAt b91)) (hv : V_isAmount) : SigOk Tb (cfgAt b92) := SigOk.next (l := b91) h (f := 52) (sg := ⟨[.cell (.int .i64) false], [.cell (.bool) false]⟩) rfl j_isAmount hv
theorem j_validRate : (vc (A := sem Tb) (cfgAt b92) 6 48 ⟨[.agg [(.bool, false), (.sl 45, false), (.bool, false), (.sl 45, false)]], [.cell (.bool) false]⟩).den = V_validRate := by kernel_rfl
theorem s_validRate (h : SigOk Tb (cfgAt b92)) (hv : V_validRate) : SigOk Tb (cfgAt b93) := SigOk.next (l := b92) h (f := 48) (sg := ⟨[.agg [(.bool, false), (.sl 45, false), (.bool, false), (.sl 45, false)]], [.cell (.bool) false]⟩) rfl j_validRate hv
theorem j_tValid : (vc (A := sem Tb) (cfgAt b93) 6 21 ⟨[.cell (.sl 42) false], [.cell (.bool) false]⟩).den = V_tValid := by kernel_rfl
theorem s_tValid (h : SigOk Tb (cfgAt b93)) (hv : V_tValid) : SigOk Tb (cfgAt b94) := SigOk.next (l := b93) h (f := 21) (sg := ⟨[.cell (.sl 42) false], [.cell (.bool) false]⟩) rfl j_tValid hv
theorem j_validYears : (vc (A := sem Tb) (cfgAt b94) 6 51 ⟨[.cell (.sl 48) false], [.cell (.bool) false]⟩).den = V_validYears := by kernel_rfl
theorem s_validYears (h : SigOk Tb (cfgAt b94)) (hv : V_validYears) : SigOk Tb (cfgAt b95) := SigOk.next (l := b94) h (f := 51) (sg := ⟨[.cell (.sl 48) false], [.cell (.bool) false]⟩) rfl j_validYears hv
theorem j_applying : (vc (A := sem Tb) (cfgAt b95) 6 53 ⟨[.cell (.sl 48) false, .cell (.int .i64) false], [.cell (.sl 42) false, .cell (.bool) false]⟩).den = V_applying := by kernel_rfl
theorem s_applying (h : SigOk Tb (cfgAt b95)) (hv : V_applying) : SigOk Tb (cfgAt b96) := SigOk.next (l := b95) h (f := 53) (sg := ⟨[.cell (.sl 48) false, .cell (.int .i64) false], [.cell (.sl 42) false, .cell (.bool) false]⟩) rfl j_applying hv
theorem j_exact : (vc (A := sem Tb) (cfgAt b96) 6 55 ⟨[.cell (.sl 42) false, .cell (.int .i64) false, .cell (.int .i64) false], [.agg [(.bool, false), (.sl 45, false), (.bool, false), (.sl 45, false)], .cell (.int .i64) false]⟩).den = V_exact := by kernel_rfl
theorem s_exact (h : SigOk Tb (cfgAt b96)) (hv : V_exact) : SigOk Tb (cfgAt b97) := SigOk.next (l := b96) h (f := 55) (sg := ⟨[.cell (.sl 42) false, .cell (.int .i64) false, .cell (.int .i64) false], [.agg [(.bool, false), (.sl 45, false), (.bool, false), (.sl 45, false)], .cell (.int .i64) false]⟩) rfl j_exact hv
theorem j_tTax : (vc (A := sem Tb) (cfgAt b97) 6 24 ⟨[.cell (.sl 42) false, .cell (.int .i64) false], [.agg [(.bool, false), (.sl 45, false), (.bool, false), (.sl 45, false)], .cell (.int .i64) false]⟩).den = V_tTax := by kernel_rfl
theorem s_tTax (h : SigOk Tb (cfgAt b97)) (hv : V_tTax) : SigOk Tb (cfgAt b98) := SigOk.next (l := b97) h (f := 24) (sg := ⟨[.cell (.sl 42) false, .cell (.int .i64) false], [.agg [(.bool, false), (.sl 45, false), (.bool, false), (.sl 45, false)], .cell (.int .i64) false]⟩) rfl j_tTax hv
theorem j_tDue : (vc (A := sem Tb) (cfgAt b98) 6 27 ⟨[.cell (.sl 42) false, .cell (.int .i64) false, .cell (.int .i64) false], [.cell (.int .i64) false, .cell (.int .i64) false]⟩).den = V_tDue := by kernel_rfl
theorem s_tDue (h : SigOk Tb (cfgAt b98)) (hv : V_tDue) : SigOk Tb (cfgAt b99) := SigOk.next (l := b98) h (f := 27) (sg := ⟨[.cell (.sl 42) false, .cell (.int .i64) false, .cell (.int .i64) false], [.cell (.int .i64) false, .cell (.int .i64) false]⟩) rfl j_tDue hv
theorem j_ownFrac : (vc (A := sem Tb) (cfgAt b99) 6 69 ⟨[.agg [(.bool, false), (.sl 45, false), (.bool, false), (.sl 45, false)]], [.agg [(.bool, false), (.sl 45, false), (.bool, false), (.sl 45, false)]]⟩).den = V_ownFrac := by kernel_rfl
theorem s_ownFrac (h : SigOk Tb (cfgAt b99)) (hv : V_ownFrac) : SigOk Tb (cfgAt b100) := SigOk.next (l := b99) h (f := 69) (sg := ⟨[.agg [(.bool, false), (.sl 45, false), (.bool, false), (.sl 45, false)]], [.agg [(.bool, false), (.sl 45, false), (.bool, false), (.sl 45, false)]]⟩) rfl j_ownFrac hv
theorem j_tScale : (vc (A := sem Tb) (cfgAt b100) 6 34 ⟨[.cell (.sl 48) false, .cell (.int .i64) false], [.cell (.sl 42) false, .cell (.int .i64) false]⟩).den = V_tScale := by kernel_rfl
theorem s_tScale (h : SigOk Tb (cfgAt b100)) (hv : V_tScale) : SigOk Tb (cfgAt b101) := SigOk.next (l := b100) h (f := 34) (sg := ⟨[.cell (.sl 48) false, .cell (.int .i64) false], [.cell (.sl 42) false, .cell (.int .i64) false]⟩) rfl j_tScale hv
theorem j_tWithhold : (vc (A := sem Tb) (cfgAt b101) 6 23 ⟨[.cell (.sl 48) false, .agg [(.int .i64, false), (.int .i64, false), (.int .i64, false)], .cell (.int .i64) false, .cell (.int .i64) false], [.cell (.int .i64) false, .agg [(.int .i64, false), (.int .i64, false), (.int .i64, false)], .cell (.int .i64) false]⟩).den = V_tWithhold := by kernel_rfl
theorem s_tWithhold (h : SigOk Tb (cfgAt b101)) (hv : V_tWithhold) : SigOk Tb (cfgAt b102) := SigOk.next (l := b101) h (f := 23) (sg := ⟨[.cell (.sl 48) false, .agg [(.int .i64, false), (.int .i64, false), (.int .i64, false)], .cell (.int .i64) false, .cell (.int .i64) false], [.cell (.int .i64) false, .agg [(.int .i64, false), (.int .i64, false), (.int .i64, false)], .cell (.int .i64) false]⟩) rfl j_tWithhold hv
end Go.Sx.N
