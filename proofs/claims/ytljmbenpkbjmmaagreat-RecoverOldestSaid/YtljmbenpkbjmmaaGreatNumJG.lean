/-
  The conditions are what the executor says. Conditions: none; printed by a program of our own.
-/
import Derived.Test.YtljmbenpkbjmmaaGreatNumT
import Derived.Test.YtljmbenpkbjmmaaGreatNumVG
import Derived.KernelRfl
namespace Go.Sx.N
open Go.Proofs
theorem j_has : (vc (A := sem Tb) (cfgAt b74) 6 50 ⟨[.agg [(.int .i64, false), (.sl 3, false), (.sl 55, false)], .cell (.int .i64) false], [.cell (.bool) false]⟩).den = V_has := by kernel_rfl
theorem s_has (h : SigOk Tb (cfgAt b74)) (hv : V_has) : SigOk Tb (cfgAt b75) := SigOk.next (l := b74) h (f := 50) (sg := ⟨[.agg [(.int .i64, false), (.sl 3, false), (.sl 55, false)], .cell (.int .i64) false], [.cell (.bool) false]⟩) rfl j_has hv
theorem j_follow : (vc (A := sem Tb) (cfgAt b75) 6 49 ⟨[.agg [(.int .i64, false), (.sl 3, false), (.sl 55, false)], .cell (.sl 55) false, .cell (.int .i64) false], [.cell (.bool) false]⟩).den = V_follow := by kernel_rfl
theorem s_follow (h : SigOk Tb (cfgAt b75)) (hv : V_follow) : SigOk Tb (cfgAt b76) := SigOk.next (l := b75) h (f := 49) (sg := ⟨[.agg [(.int .i64, false), (.sl 3, false), (.sl 55, false)], .cell (.sl 55) false, .cell (.int .i64) false], [.cell (.bool) false]⟩) rfl j_follow hv
theorem j_Valid : (vc (A := sem Tb) (cfgAt b76) 6 28 ⟨[.agg [(.int .i64, false), (.sl 3, false), (.sl 55, false)]], [.cell (.bool) false]⟩).den = V_Valid := by kernel_rfl
theorem s_Valid (h : SigOk Tb (cfgAt b76)) (hv : V_Valid) : SigOk Tb (cfgAt b77) := SigOk.next (l := b76) h (f := 28) (sg := ⟨[.agg [(.int .i64, false), (.sl 3, false), (.sl 55, false)]], [.cell (.bool) false]⟩) rfl j_Valid hv
theorem j_posted : (vc (A := sem Tb) (cfgAt b77) 6 51 ⟨[.agg [(.int .i64, false), (.sl 3, false), (.sl 55, false)], .cell (.int .i64) false], [.cell (.int .i64) false]⟩).den = V_posted := by kernel_rfl
theorem s_posted (h : SigOk Tb (cfgAt b77)) (hv : V_posted) : SigOk Tb (cfgAt b78) := SigOk.next (l := b77) h (f := 51) (sg := ⟨[.agg [(.int .i64, false), (.sl 3, false), (.sl 55, false)], .cell (.int .i64) false], [.cell (.int .i64) false]⟩) rfl j_posted hv
theorem j_Open : (vc (A := sem Tb) (cfgAt b78) 6 29 ⟨[.agg [(.int .i64, false), (.sl 3, false), (.sl 55, false)], .cell (.int .i64) false], [.cell (.int .i64) false, .cell (.int .i64) false]⟩).den = V_Open := by kernel_rfl
theorem s_Open (h : SigOk Tb (cfgAt b78)) (hv : V_Open) : SigOk Tb (cfgAt b79) := SigOk.next (l := b78) h (f := 29) (sg := ⟨[.agg [(.int .i64, false), (.sl 3, false), (.sl 55, false)], .cell (.int .i64) false], [.cell (.int .i64) false, .cell (.int .i64) false]⟩) rfl j_Open hv
theorem j_Total : (vc (A := sem Tb) (cfgAt b79) 6 30 ⟨[.agg [(.int .i64, false), (.sl 3, false), (.sl 55, false)], .cell (.int .u8) false], [.cell (.int .i64) false, .cell (.int .i64) false]⟩).den = V_Total := by kernel_rfl
theorem s_Total (h : SigOk Tb (cfgAt b79)) (hv : V_Total) : SigOk Tb (cfgAt b80) := SigOk.next (l := b79) h (f := 30) (sg := ⟨[.agg [(.int .i64, false), (.sl 3, false), (.sl 55, false)], .cell (.int .u8) false], [.cell (.int .i64) false, .cell (.int .i64) false]⟩) rfl j_Total hv
theorem j_Same : (vc (A := sem Tb) (cfgAt b80) 6 22 ⟨[.agg [(.int .i64, false), (.sl 3, false), (.sl 55, false)], .agg [(.int .i64, false), (.sl 3, false), (.sl 55, false)]], [.cell (.bool) false]⟩).den = V_Same := by kernel_rfl
theorem s_Same (h : SigOk Tb (cfgAt b80)) (hv : V_Same) : SigOk Tb (cfgAt b81) := SigOk.next (l := b80) h (f := 22) (sg := ⟨[.agg [(.int .i64, false), (.sl 3, false), (.sl 55, false)], .agg [(.int .i64, false), (.sl 3, false), (.sl 55, false)]], [.cell (.bool) false]⟩) rfl j_Same hv
theorem j_rHas : (vc (A := sem Tb) (cfgAt b81) 6 35 ⟨[.agg [(.int .i64, false), (.sl 3, false), (.sl 55, false)], .cell (.int .i64) false], [.cell (.bool) false]⟩).den = V_rHas := by kernel_rfl
theorem s_rHas (h : SigOk Tb (cfgAt b81)) (hv : V_rHas) : SigOk Tb (cfgAt b82) := SigOk.next (l := b81) h (f := 35) (sg := ⟨[.agg [(.int .i64, false), (.sl 3, false), (.sl 55, false)], .cell (.int .i64) false], [.cell (.bool) false]⟩) rfl j_rHas hv
theorem j_rRight : (vc (A := sem Tb) (cfgAt b82) 6 71 ⟨[.agg [(.int .i64, false), (.sl 3, false), (.sl 55, false)], .agg [(.int .i64, false), (.int .i64, false), (.int .u8, false), (.int .i64, false)]], [.cell (.bool) false]⟩).den = V_rRight := by kernel_rfl
theorem s_rRight (h : SigOk Tb (cfgAt b82)) (hv : V_rRight) : SigOk Tb (cfgAt b83) := SigOk.next (l := b82) h (f := 71) (sg := ⟨[.agg [(.int .i64, false), (.sl 3, false), (.sl 55, false)], .agg [(.int .i64, false), (.int .i64, false), (.int .u8, false), (.int .i64, false)]], [.cell (.bool) false]⟩) rfl j_rRight hv
theorem j_rPosts : (vc (A := sem Tb) (cfgAt b83) 6 45 ⟨[.agg [(.int .i64, false), (.sl 3, false), (.sl 55, false)], .cell (.sl 55) false], [.cell (.bool) false]⟩).den = V_rPosts := by kernel_rfl
theorem s_rPosts (h : SigOk Tb (cfgAt b83)) (hv : V_rPosts) : SigOk Tb (cfgAt b84) := SigOk.next (l := b83) h (f := 45) (sg := ⟨[.agg [(.int .i64, false), (.sl 3, false), (.sl 55, false)], .cell (.sl 55) false], [.cell (.bool) false]⟩) rfl j_rPosts hv
theorem j_rValid : (vc (A := sem Tb) (cfgAt b84) 6 23 ⟨[.agg [(.int .i64, false), (.sl 3, false), (.sl 55, false)]], [.cell (.bool) false]⟩).den = V_rValid := by kernel_rfl
theorem s_rValid (h : SigOk Tb (cfgAt b84)) (hv : V_rValid) : SigOk Tb (cfgAt b85) := SigOk.next (l := b84) h (f := 23) (sg := ⟨[.agg [(.int .i64, false), (.sl 3, false), (.sl 55, false)]], [.cell (.bool) false]⟩) rfl j_rValid hv
theorem j_rPosted : (vc (A := sem Tb) (cfgAt b85) 6 68 ⟨[.agg [(.int .i64, false), (.sl 3, false), (.sl 55, false)], .cell (.int .i64) false], [.cell (.int .i64) false]⟩).den = V_rPosted := by kernel_rfl
theorem s_rPosted (h : SigOk Tb (cfgAt b85)) (hv : V_rPosted) : SigOk Tb (cfgAt b86) := SigOk.next (l := b85) h (f := 68) (sg := ⟨[.agg [(.int .i64, false), (.sl 3, false), (.sl 55, false)], .cell (.int .i64) false], [.cell (.int .i64) false]⟩) rfl j_rPosted hv
theorem j_Concat : (vc (A := sem Tb) (cfgAt b86) 6 70 ⟨[.cell (.sl 23) false], [.cell (.sl 55) true]⟩).den = V_Concat := by kernel_rfl
theorem s_Concat (h : SigOk Tb (cfgAt b86)) (hv : V_Concat) : SigOk Tb (cfgAt b87) := SigOk.next (l := b86) h (f := 70) (sg := ⟨[.cell (.sl 23) false], [.cell (.sl 55) true]⟩) rfl j_Concat hv
theorem j_Post : (vc (A := sem Tb) (cfgAt b87) 6 44 ⟨[.agg [(.int .i64, false), (.sl 3, false), (.sl 55, false)], .cell (.sl 55) false], [.agg [(.int .i64, false), (.sl 3, true), (.sl 55, true)], .cell (.int .i64) false]⟩).den = V_Post := by kernel_rfl
theorem s_Post (h : SigOk Tb (cfgAt b87)) (hv : V_Post) : SigOk Tb (cfgAt b88) := SigOk.next (l := b87) h (f := 44) (sg := ⟨[.agg [(.int .i64, false), (.sl 3, false), (.sl 55, false)], .cell (.sl 55) false], [.agg [(.int .i64, false), (.sl 3, true), (.sl 55, true)], .cell (.int .i64) false]⟩) rfl j_Post hv
end Go.Sx.N
