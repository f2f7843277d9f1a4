/-
  The conditions are what the executor says. Conditions: none; printed by a program of our own.
-/
import Derived.Test.YtmhhcnaflklapaaGreatNumT
import Derived.Test.YtmhhcnaflklapaaGreatNumVB
import Derived.KernelRfl
namespace Go.Sx.N
open Go.Proofs
theorem j_plus : (vc (A := sem Tb) (cfgAt b19) 6 176 ⟨[.cell (.sl 22) false, .cell (.sl 22) false], [.cell (.sl 22) false]⟩).den = V_plus := by kernel_rfl
theorem s_plus (h : SigOk Tb (cfgAt b19)) (hv : V_plus) : SigOk Tb (cfgAt b20) := SigOk.next (l := b19) h (f := 176) (sg := ⟨[.cell (.sl 22) false, .cell (.sl 22) false], [.cell (.sl 22) false]⟩) rfl j_plus hv
theorem j_minus : (vc (A := sem Tb) (cfgAt b20) 6 177 ⟨[.cell (.sl 22) false, .cell (.sl 22) false], [.cell (.sl 22) false]⟩).den = V_minus := by kernel_rfl
theorem s_minus (h : SigOk Tb (cfgAt b20)) (hv : V_minus) : SigOk Tb (cfgAt b21) := SigOk.next (l := b20) h (f := 177) (sg := ⟨[.cell (.sl 22) false, .cell (.sl 22) false], [.cell (.sl 22) false]⟩) rfl j_minus hv
theorem j_times : (vc (A := sem Tb) (cfgAt b21) 6 159 ⟨[.cell (.sl 22) false, .cell (.sl 22) false], [.cell (.sl 22) false]⟩).den = V_times := by kernel_rfl
theorem s_times (h : SigOk Tb (cfgAt b21)) (hv : V_times) : SigOk Tb (cfgAt b22) := SigOk.next (l := b21) h (f := 159) (sg := ⟨[.cell (.sl 22) false, .cell (.sl 22) false], [.cell (.sl 22) false]⟩) rfl j_times hv
theorem j_Clone16 : (vc (A := sem Tb) (cfgAt b22) 6 125 ⟨[.cell (.sl 33) false], [.cell (.sl 33) false]⟩).den = V_Clone16 := by kernel_rfl
theorem s_Clone16 (h : SigOk Tb (cfgAt b22)) (hv : V_Clone16) : SigOk Tb (cfgAt b23) := SigOk.next (l := b22) h (f := 125) (sg := ⟨[.cell (.sl 33) false], [.cell (.sl 33) false]⟩) rfl j_Clone16 hv
theorem j_wValid : (vc (A := sem Tb) (cfgAt b23) 6 147 ⟨[.agg [(.bool, false), (.sl 33, false)]], [.cell (.bool) false]⟩).den = V_wValid := by kernel_rfl
theorem s_wValid (h : SigOk Tb (cfgAt b23)) (hv : V_wValid) : SigOk Tb (cfgAt b24) := SigOk.next (l := b23) h (f := 147) (sg := ⟨[.agg [(.bool, false), (.sl 33, false)]], [.cell (.bool) false]⟩) rfl j_wValid hv
theorem j_wAllValid : (vc (A := sem Tb) (cfgAt b24) 6 157 ⟨[.cell (.sl 36) false], [.cell (.bool) false]⟩).den = V_wAllValid := by kernel_rfl
theorem s_wAllValid (h : SigOk Tb (cfgAt b24)) (hv : V_wAllValid) : SigOk Tb (cfgAt b25) := SigOk.next (l := b24) h (f := 157) (sg := ⟨[.cell (.sl 36) false], [.cell (.bool) false]⟩) rfl j_wAllValid hv
theorem j_wFromInt : (vc (A := sem Tb) (cfgAt b25) 6 100 ⟨[.cell (.int .i64) false], [.agg [(.bool, false), (.sl 33, false)]]⟩).den = V_wFromInt := by kernel_rfl
theorem s_wFromInt (h : SigOk Tb (cfgAt b25)) (hv : V_wFromInt) : SigOk Tb (cfgAt b26) := SigOk.next (l := b25) h (f := 100) (sg := ⟨[.cell (.int .i64) false], [.agg [(.bool, false), (.sl 33, false)]]⟩) rfl j_wFromInt hv
theorem j_wInt : (vc (A := sem Tb) (cfgAt b26) 6 139 ⟨[.agg [(.bool, false), (.sl 33, false)]], [.cell (.int .i64) false, .cell (.int .i64) false]⟩).den = V_wInt := by kernel_rfl
theorem s_wInt (h : SigOk Tb (cfgAt b26)) (hv : V_wInt) : SigOk Tb (cfgAt b27) := SigOk.next (l := b26) h (f := 139) (sg := ⟨[.agg [(.bool, false), (.sl 33, false)]], [.cell (.int .i64) false, .cell (.int .i64) false]⟩) rfl j_wInt hv
theorem j_result : (vc (A := sem Tb) (cfgAt b27) 6 158 ⟨[.cell (.bool) false, .cell (.sl 22) false], [.agg [(.bool, false), (.sl 33, false)], .cell (.int .i64) false]⟩).den = V_result := by kernel_rfl
theorem s_result (h : SigOk Tb (cfgAt b27)) (hv : V_result) : SigOk Tb (cfgAt b28) := SigOk.next (l := b27) h (f := 158) (sg := ⟨[.cell (.bool) false, .cell (.sl 22) false], [.agg [(.bool, false), (.sl 33, false)], .cell (.int .i64) false]⟩) rfl j_result hv
theorem j_sum : (vc (A := sem Tb) (cfgAt b28) 6 172 ⟨[.cell (.bool) false, .cell (.sl 22) false, .cell (.bool) false, .cell (.sl 22) false], [.agg [(.bool, false), (.sl 33, false)], .cell (.int .i64) false]⟩).den = V_sum := by kernel_rfl
theorem s_sum (h : SigOk Tb (cfgAt b28)) (hv : V_sum) : SigOk Tb (cfgAt b29) := SigOk.next (l := b28) h (f := 172) (sg := ⟨[.cell (.bool) false, .cell (.sl 22) false, .cell (.bool) false, .cell (.sl 22) false], [.agg [(.bool, false), (.sl 33, false)], .cell (.int .i64) false]⟩) rfl j_sum hv
theorem j_wAdd : (vc (A := sem Tb) (cfgAt b29) 6 153 ⟨[.agg [(.bool, false), (.sl 33, false)], .agg [(.bool, false), (.sl 33, false)]], [.agg [(.bool, false), (.sl 33, false)], .cell (.int .i64) false]⟩).den = V_wAdd := by kernel_rfl
theorem s_wAdd (h : SigOk Tb (cfgAt b29)) (hv : V_wAdd) : SigOk Tb (cfgAt b30) := SigOk.next (l := b29) h (f := 153) (sg := ⟨[.agg [(.bool, false), (.sl 33, false)], .agg [(.bool, false), (.sl 33, false)]], [.agg [(.bool, false), (.sl 33, false)], .cell (.int .i64) false]⟩) rfl j_wAdd hv
theorem j_wMul : (vc (A := sem Tb) (cfgAt b30) 6 133 ⟨[.agg [(.bool, false), (.sl 33, false)], .agg [(.bool, false), (.sl 33, false)]], [.agg [(.bool, false), (.sl 33, false)], .cell (.int .i64) false]⟩).den = V_wMul := by kernel_rfl
theorem s_wMul (h : SigOk Tb (cfgAt b30)) (hv : V_wMul) : SigOk Tb (cfgAt b31) := SigOk.next (l := b30) h (f := 133) (sg := ⟨[.agg [(.bool, false), (.sl 33, false)], .agg [(.bool, false), (.sl 33, false)]], [.agg [(.bool, false), (.sl 33, false)], .cell (.int .i64) false]⟩) rfl j_wMul hv
theorem j_wDivMod : (vc (A := sem Tb) (cfgAt b31) 6 156 ⟨[.agg [(.bool, false), (.sl 33, false)], .agg [(.bool, false), (.sl 33, false)]], [.agg [(.bool, false), (.sl 33, false)], .agg [(.bool, false), (.sl 33, false)], .cell (.int .i64) false]⟩).den = V_wDivMod := by kernel_rfl
theorem s_wDivMod (h : SigOk Tb (cfgAt b31)) (hv : V_wDivMod) : SigOk Tb (cfgAt b32) := SigOk.next (l := b31) h (f := 156) (sg := ⟨[.agg [(.bool, false), (.sl 33, false)], .agg [(.bool, false), (.sl 33, false)]], [.agg [(.bool, false), (.sl 33, false)], .agg [(.bool, false), (.sl 33, false)], .cell (.int .i64) false]⟩) rfl j_wDivMod hv
theorem j_wGcd : (vc (A := sem Tb) (cfgAt b32) 6 155 ⟨[.agg [(.bool, false), (.sl 33, false)], .agg [(.bool, false), (.sl 33, false)]], [.agg [(.bool, false), (.sl 33, false)], .cell (.int .i64) false]⟩).den = V_wGcd := by kernel_rfl
theorem s_wGcd (h : SigOk Tb (cfgAt b32)) (hv : V_wGcd) : SigOk Tb (cfgAt b33) := SigOk.next (l := b32) h (f := 155) (sg := ⟨[.agg [(.bool, false), (.sl 33, false)], .agg [(.bool, false), (.sl 33, false)]], [.agg [(.bool, false), (.sl 33, false)], .cell (.int .i64) false]⟩) rfl j_wGcd hv
theorem j_wCmp : (vc (A := sem Tb) (cfgAt b33) 6 136 ⟨[.agg [(.bool, false), (.sl 33, false)], .agg [(.bool, false), (.sl 33, false)]], [.cell (.int .i64) false]⟩).den = V_wCmp := by kernel_rfl
theorem s_wCmp (h : SigOk Tb (cfgAt b33)) (hv : V_wCmp) : SigOk Tb (cfgAt b34) := SigOk.next (l := b33) h (f := 136) (sg := ⟨[.agg [(.bool, false), (.sl 33, false)], .agg [(.bool, false), (.sl 33, false)]], [.cell (.int .i64) false]⟩) rfl j_wCmp hv
end Go.Sx.N
