/-
  The conditions are what the executor says. Conditions: none; printed by a program of our own.
-/
import Derived.Test.YtedajccdbdlaoaaGreatNumT
import Derived.Test.YtedajccdbdlaoaaGreatNumVR
import Derived.KernelRfl
namespace Go.Sx.N
open Go.Proofs
theorem j_xValid : (vc (A := sem Tb) (cfgAt b102) 6 43 ⟨[.cell (.sl 122) false], [.cell (.bool) false]⟩).den = V_xValid := by kernel_rfl
theorem s_xValid (h : SigOk Tb (cfgAt b102)) (hv : V_xValid) : SigOk Tb (cfgAt b103) := SigOk.next (l := b102) h (f := 43) (sg := ⟨[.cell (.sl 122) false], [.cell (.bool) false]⟩) rfl j_xValid hv
theorem j_taxed : (vc (A := sem Tb) (cfgAt b103) 6 72 ⟨[.cell (.sl 122) false, .cell (.int .i64) false, .cell (.int .i64) false], [.agg [(.bool, false), (.sl 45, false), (.bool, false), (.sl 45, false)]]⟩).den = V_taxed := by kernel_rfl
theorem s_taxed (h : SigOk Tb (cfgAt b103)) (hv : V_taxed) : SigOk Tb (cfgAt b104) := SigOk.next (l := b103) h (f := 72) (sg := ⟨[.cell (.sl 122) false, .cell (.int .i64) false, .cell (.int .i64) false], [.agg [(.bool, false), (.sl 45, false), (.bool, false), (.sl 45, false)]]⟩) rfl j_taxed hv
theorem j_xTax : (vc (A := sem Tb) (cfgAt b104) 6 41 ⟨[.cell (.sl 122) false, .cell (.int .i64) false], [.agg [(.bool, false), (.sl 45, false), (.bool, false), (.sl 45, false)], .cell (.int .i64) false]⟩).den = V_xTax := by kernel_rfl
theorem s_xTax (h : SigOk Tb (cfgAt b104)) (hv : V_xTax) : SigOk Tb (cfgAt b105) := SigOk.next (l := b104) h (f := 41) (sg := ⟨[.cell (.sl 122) false, .cell (.int .i64) false], [.agg [(.bool, false), (.sl 45, false), (.bool, false), (.sl 45, false)], .cell (.int .i64) false]⟩) rfl j_xTax hv
theorem j_xDue : (vc (A := sem Tb) (cfgAt b105) 6 42 ⟨[.cell (.sl 122) false, .cell (.int .i64) false, .cell (.int .i64) false], [.cell (.int .i64) false, .cell (.int .i64) false]⟩).den = V_xDue := by kernel_rfl
theorem s_xDue (h : SigOk Tb (cfgAt b105)) (hv : V_xDue) : SigOk Tb (cfgAt b106) := SigOk.next (l := b105) h (f := 42) (sg := ⟨[.cell (.sl 122) false, .cell (.int .i64) false, .cell (.int .i64) false], [.cell (.int .i64) false, .cell (.int .i64) false]⟩) rfl j_xDue hv
theorem j_xScale : (vc (A := sem Tb) (cfgAt b106) 6 35 ⟨[.cell (.sl 84) false, .cell (.int .i64) false], [.cell (.sl 122) false, .cell (.int .i64) false]⟩).den = V_xScale := by kernel_rfl
theorem s_xScale (h : SigOk Tb (cfgAt b106)) (hv : V_xScale) : SigOk Tb (cfgAt b107) := SigOk.next (l := b106) h (f := 35) (sg := ⟨[.cell (.sl 84) false, .cell (.int .i64) false], [.cell (.sl 122) false, .cell (.int .i64) false]⟩) rfl j_xScale hv
theorem j_xWithhold : (vc (A := sem Tb) (cfgAt b107) 6 45 ⟨[.cell (.sl 84) false, .agg [(.int .i64, false), (.int .i64, false), (.int .i64, false)], .cell (.int .i64) false, .cell (.int .i64) false], [.cell (.int .i64) false, .agg [(.int .i64, false), (.int .i64, false), (.int .i64, false)], .cell (.int .i64) false]⟩).den = V_xWithhold := by kernel_rfl
theorem s_xWithhold (h : SigOk Tb (cfgAt b107)) (hv : V_xWithhold) : SigOk Tb (cfgAt b108) := SigOk.next (l := b107) h (f := 45) (sg := ⟨[.cell (.sl 84) false, .agg [(.int .i64, false), (.int .i64, false), (.int .i64, false)], .cell (.int .i64) false, .cell (.int .i64) false], [.cell (.int .i64) false, .agg [(.int .i64, false), (.int .i64, false), (.int .i64, false)], .cell (.int .i64) false]⟩) rfl j_xWithhold hv
end Go.Sx.N
