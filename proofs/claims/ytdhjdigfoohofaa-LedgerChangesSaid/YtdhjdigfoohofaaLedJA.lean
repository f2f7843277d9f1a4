/-
  The conditions are what the executor says. Conditions: none; printed by a program of our own.
-/
import Derived.Test.YtdhjdigfoohofaaLedT
import Derived.Test.YtdhjdigfoohofaaLedVA
import Derived.KernelRfl
namespace Go.Sx.N
open Go.Proofs
theorem j_has : (vc (A := sem Tb) (cfgAt b0) 6 24 ⟨[.agg [(.int .i64, false), (.sl 3, false), (.sl 40, false)], .cell (.int .i64) false], [.cell (.bool) false]⟩).den = V_has := by kernel_rfl
theorem s_has (h : SigOk Tb (cfgAt b0)) (hv : V_has) : SigOk Tb (cfgAt b1) := SigOk.next (l := b0) h (f := 24) (sg := ⟨[.agg [(.int .i64, false), (.sl 3, false), (.sl 40, false)], .cell (.int .i64) false], [.cell (.bool) false]⟩) rfl j_has hv
theorem j_follow : (vc (A := sem Tb) (cfgAt b1) 6 17 ⟨[.agg [(.int .i64, false), (.sl 3, false), (.sl 40, false)], .cell (.sl 40) false, .cell (.int .i64) false], [.cell (.bool) false]⟩).den = V_follow := by kernel_rfl
theorem s_follow (h : SigOk Tb (cfgAt b1)) (hv : V_follow) : SigOk Tb (cfgAt b2) := SigOk.next (l := b1) h (f := 17) (sg := ⟨[.agg [(.int .i64, false), (.sl 3, false), (.sl 40, false)], .cell (.sl 40) false, .cell (.int .i64) false], [.cell (.bool) false]⟩) rfl j_follow hv
theorem j_Valid : (vc (A := sem Tb) (cfgAt b2) 6 16 ⟨[.agg [(.int .i64, false), (.sl 3, false), (.sl 40, false)]], [.cell (.bool) false]⟩).den = V_Valid := by kernel_rfl
theorem s_Valid (h : SigOk Tb (cfgAt b2)) (hv : V_Valid) : SigOk Tb (cfgAt b3) := SigOk.next (l := b2) h (f := 16) (sg := ⟨[.agg [(.int .i64, false), (.sl 3, false), (.sl 40, false)]], [.cell (.bool) false]⟩) rfl j_Valid hv
theorem j_posted : (vc (A := sem Tb) (cfgAt b3) 6 25 ⟨[.agg [(.int .i64, false), (.sl 3, false), (.sl 40, false)], .cell (.int .i64) false], [.cell (.int .i64) false]⟩).den = V_posted := by kernel_rfl
theorem s_posted (h : SigOk Tb (cfgAt b3)) (hv : V_posted) : SigOk Tb (cfgAt b4) := SigOk.next (l := b3) h (f := 25) (sg := ⟨[.agg [(.int .i64, false), (.sl 3, false), (.sl 40, false)], .cell (.int .i64) false], [.cell (.int .i64) false]⟩) rfl j_posted hv
theorem j_Open : (vc (A := sem Tb) (cfgAt b4) 6 13 ⟨[.agg [(.int .i64, false), (.sl 3, false), (.sl 40, false)], .cell (.int .i64) false], [.cell (.int .i64) false, .cell (.int .i64) false]⟩).den = V_Open := by kernel_rfl
theorem s_Open (h : SigOk Tb (cfgAt b4)) (hv : V_Open) : SigOk Tb (cfgAt b5) := SigOk.next (l := b4) h (f := 13) (sg := ⟨[.agg [(.int .i64, false), (.sl 3, false), (.sl 40, false)], .cell (.int .i64) false], [.cell (.int .i64) false, .cell (.int .i64) false]⟩) rfl j_Open hv
theorem j_Balance : (vc (A := sem Tb) (cfgAt b5) 6 14 ⟨[.agg [(.int .i64, false), (.sl 3, false), (.sl 40, false)], .cell (.int .i64) false], [.cell (.int .i64) false, .cell (.int .i64) false]⟩).den = V_Balance := by kernel_rfl
theorem s_Balance (h : SigOk Tb (cfgAt b5)) (hv : V_Balance) : SigOk Tb (cfgAt b6) := SigOk.next (l := b5) h (f := 14) (sg := ⟨[.agg [(.int .i64, false), (.sl 3, false), (.sl 40, false)], .cell (.int .i64) false], [.cell (.int .i64) false, .cell (.int .i64) false]⟩) rfl j_Balance hv
theorem j_Learn : (vc (A := sem Tb) (cfgAt b6) 6 9 ⟨[.agg [(.int .i64, false), (.sl 3, false), (.sl 40, false)], .cell (.int .i64) false, .cell (.int .i64) false], [.agg [(.int .i64, false), (.sl 3, true), (.sl 40, true)], .cell (.int .i64) false]⟩).den = V_Learn := by kernel_rfl
theorem s_Learn (h : SigOk Tb (cfgAt b6)) (hv : V_Learn) : SigOk Tb (cfgAt b7) := SigOk.next (l := b6) h (f := 9) (sg := ⟨[.agg [(.int .i64, false), (.sl 3, false), (.sl 40, false)], .cell (.int .i64) false, .cell (.int .i64) false], [.agg [(.int .i64, false), (.sl 3, true), (.sl 40, true)], .cell (.int .i64) false]⟩) rfl j_Learn hv
theorem j_At : (vc (A := sem Tb) (cfgAt b7) 6 15 ⟨[.agg [(.int .i64, false), (.sl 3, false), (.sl 40, false)], .cell (.int .i64) false], [.agg [(.int .i64, false), (.sl 3, true), (.sl 40, true)], .cell (.int .i64) false]⟩).den = V_At := by kernel_rfl
theorem s_At (h : SigOk Tb (cfgAt b7)) (hv : V_At) : SigOk Tb (cfgAt b8) := SigOk.next (l := b7) h (f := 15) (sg := ⟨[.agg [(.int .i64, false), (.sl 3, false), (.sl 40, false)], .cell (.int .i64) false], [.agg [(.int .i64, false), (.sl 3, true), (.sl 40, true)], .cell (.int .i64) false]⟩) rfl j_At hv
theorem j_Same : (vc (A := sem Tb) (cfgAt b8) 6 11 ⟨[.agg [(.int .i64, false), (.sl 3, false), (.sl 40, false)], .agg [(.int .i64, false), (.sl 3, false), (.sl 40, false)]], [.cell (.bool) false]⟩).den = V_Same := by kernel_rfl
theorem s_Same (h : SigOk Tb (cfgAt b8)) (hv : V_Same) : SigOk Tb (cfgAt b9) := SigOk.next (l := b8) h (f := 11) (sg := ⟨[.agg [(.int .i64, false), (.sl 3, false), (.sl 40, false)], .agg [(.int .i64, false), (.sl 3, false), (.sl 40, false)]], [.cell (.bool) false]⟩) rfl j_Same hv
theorem j_Few : (vc (A := sem Tb) (cfgAt b9) 6 4 ⟨[.agg [(.int .i64, false), (.sl 3, false), (.sl 40, false)]], [.cell (.bool) false]⟩).den = V_Few := by kernel_rfl
theorem s_Few (h : SigOk Tb (cfgAt b9)) (hv : V_Few) : SigOk Tb (cfgAt b10) := SigOk.next (l := b9) h (f := 4) (sg := ⟨[.agg [(.int .i64, false), (.sl 3, false), (.sl 40, false)]], [.cell (.bool) false]⟩) rfl j_Few hv
theorem j_example : (vc (A := sem Tb) (cfgAt b10) 6 12 ⟨[], [.agg [(.int .i64, false), (.sl 3, true), (.sl 40, true)]]⟩).den = V_example := by kernel_rfl
theorem s_example (h : SigOk Tb (cfgAt b10)) (hv : V_example) : SigOk Tb (cfgAt b11) := SigOk.next (l := b10) h (f := 12) (sg := ⟨[], [.agg [(.int .i64, false), (.sl 3, true), (.sl 40, true)]]⟩) rfl j_example hv
theorem j_awake : (vc (A := sem Tb) (cfgAt b11) 6 5 ⟨[], [.cell (.bool) false]⟩).den = V_awake := by kernel_rfl
theorem s_awake (h : SigOk Tb (cfgAt b11)) (hv : V_awake) : SigOk Tb (cfgAt b12) := SigOk.next (l := b11) h (f := 5) (sg := ⟨[], [.cell (.bool) false]⟩) rfl j_awake hv
theorem j_copied : (vc (A := sem Tb) (cfgAt b12) 6 6 ⟨[.agg [(.int .i64, false), (.sl 3, false), (.sl 40, false)]], [.agg [(.int .i64, false), (.sl 3, true), (.sl 40, true)]]⟩).den = V_copied := by kernel_rfl
theorem s_copied (h : SigOk Tb (cfgAt b12)) (hv : V_copied) : SigOk Tb (cfgAt b13) := SigOk.next (l := b12) h (f := 6) (sg := ⟨[.agg [(.int .i64, false), (.sl 3, false), (.sl 40, false)]], [.agg [(.int .i64, false), (.sl 3, true), (.sl 40, true)]]⟩) rfl j_copied hv
theorem j_rHas : (vc (A := sem Tb) (cfgAt b13) 6 23 ⟨[.agg [(.int .i64, false), (.sl 3, false), (.sl 40, false)], .cell (.int .i64) false], [.cell (.bool) false]⟩).den = V_rHas := by kernel_rfl
theorem s_rHas (h : SigOk Tb (cfgAt b13)) (hv : V_rHas) : SigOk Tb (cfgAt b14) := SigOk.next (l := b13) h (f := 23) (sg := ⟨[.agg [(.int .i64, false), (.sl 3, false), (.sl 40, false)], .cell (.int .i64) false], [.cell (.bool) false]⟩) rfl j_rHas hv
theorem j_rRight : (vc (A := sem Tb) (cfgAt b14) 6 35 ⟨[.agg [(.int .i64, false), (.sl 3, false), (.sl 40, false)], .agg [(.int .i64, false), (.int .i64, false), (.int .u8, false), (.int .i64, false)]], [.cell (.bool) false]⟩).den = V_rRight := by kernel_rfl
theorem s_rRight (h : SigOk Tb (cfgAt b14)) (hv : V_rRight) : SigOk Tb (cfgAt b15) := SigOk.next (l := b14) h (f := 35) (sg := ⟨[.agg [(.int .i64, false), (.sl 3, false), (.sl 40, false)], .agg [(.int .i64, false), (.int .i64, false), (.int .u8, false), (.int .i64, false)]], [.cell (.bool) false]⟩) rfl j_rRight hv
theorem j_rPosts : (vc (A := sem Tb) (cfgAt b15) 6 21 ⟨[.agg [(.int .i64, false), (.sl 3, false), (.sl 40, false)], .cell (.sl 40) false], [.cell (.bool) false]⟩).den = V_rPosts := by kernel_rfl
theorem s_rPosts (h : SigOk Tb (cfgAt b15)) (hv : V_rPosts) : SigOk Tb (cfgAt b16) := SigOk.next (l := b15) h (f := 21) (sg := ⟨[.agg [(.int .i64, false), (.sl 3, false), (.sl 40, false)], .cell (.sl 40) false], [.cell (.bool) false]⟩) rfl j_rPosts hv
theorem j_rValid : (vc (A := sem Tb) (cfgAt b16) 6 20 ⟨[.agg [(.int .i64, false), (.sl 3, false), (.sl 40, false)]], [.cell (.bool) false]⟩).den = V_rValid := by kernel_rfl
theorem s_rValid (h : SigOk Tb (cfgAt b16)) (hv : V_rValid) : SigOk Tb (cfgAt b17) := SigOk.next (l := b16) h (f := 20) (sg := ⟨[.agg [(.int .i64, false), (.sl 3, false), (.sl 40, false)]], [.cell (.bool) false]⟩) rfl j_rValid hv
theorem j_Concat : (vc (A := sem Tb) (cfgAt b17) 6 19 ⟨[.cell (.sl 23) false], [.cell (.sl 40) true]⟩).den = V_Concat := by kernel_rfl
theorem s_Concat (h : SigOk Tb (cfgAt b17)) (hv : V_Concat) : SigOk Tb (cfgAt b18) := SigOk.next (l := b17) h (f := 19) (sg := ⟨[.cell (.sl 23) false], [.cell (.sl 40) true]⟩) rfl j_Concat hv
theorem j_Post : (vc (A := sem Tb) (cfgAt b18) 6 7 ⟨[.agg [(.int .i64, false), (.sl 3, false), (.sl 40, false)], .cell (.sl 40) false], [.agg [(.int .i64, false), (.sl 3, true), (.sl 40, true)], .cell (.int .i64) false]⟩).den = V_Post := by kernel_rfl
theorem s_Post (h : SigOk Tb (cfgAt b18)) (hv : V_Post) : SigOk Tb (cfgAt b19) := SigOk.next (l := b18) h (f := 7) (sg := ⟨[.agg [(.int .i64, false), (.sl 3, false), (.sl 40, false)], .cell (.sl 40) false], [.agg [(.int .i64, false), (.sl 3, true), (.sl 40, true)], .cell (.int .i64) false]⟩) rfl j_Post hv
theorem j_rPost : (vc (A := sem Tb) (cfgAt b19) 6 8 ⟨[.agg [(.int .i64, false), (.sl 3, false), (.sl 40, false)], .cell (.sl 40) false], [.agg [(.int .i64, false), (.sl 3, false), (.sl 40, false)], .cell (.int .i64) false]⟩).den = V_rPost := by kernel_rfl
theorem s_rPost (h : SigOk Tb (cfgAt b19)) (hv : V_rPost) : SigOk Tb (cfgAt b20) := SigOk.next (l := b19) h (f := 8) (sg := ⟨[.agg [(.int .i64, false), (.sl 3, false), (.sl 40, false)], .cell (.sl 40) false], [.agg [(.int .i64, false), (.sl 3, false), (.sl 40, false)], .cell (.int .i64) false]⟩) rfl j_rPost hv
theorem j_rLearn : (vc (A := sem Tb) (cfgAt b20) 6 10 ⟨[.agg [(.int .i64, false), (.sl 3, false), (.sl 40, false)], .cell (.int .i64) false, .cell (.int .i64) false], [.agg [(.int .i64, false), (.sl 3, false), (.sl 40, false)], .cell (.int .i64) false]⟩).den = V_rLearn := by kernel_rfl
theorem s_rLearn (h : SigOk Tb (cfgAt b20)) (hv : V_rLearn) : SigOk Tb (cfgAt b21) := SigOk.next (l := b20) h (f := 10) (sg := ⟨[.agg [(.int .i64, false), (.sl 3, false), (.sl 40, false)], .cell (.int .i64) false, .cell (.int .i64) false], [.agg [(.int .i64, false), (.sl 3, false), (.sl 40, false)], .cell (.int .i64) false]⟩) rfl j_rLearn hv
end Go.Sx.N
