/-
  The conditions are what the executor says. Conditions: none; printed by a program of our own.
-/
import Derived.Test.YtjljnieafhdkgaaGreatDoorNumT
import Derived.Test.YtjljnieafhdkgaaGreatDoorNumVB
import Derived.KernelRfl
namespace Go.Sx.N
open Go.Proofs
theorem j_plus : (vc (A := sem Tb) (cfgAt b19) 6 110 ⟨[.cell (.sl 133) false, .cell (.sl 133) false], [.cell (.sl 133) false]⟩).den = V_plus := by kernel_rfl
theorem s_plus (h : SigOk Tb (cfgAt b19)) (hv : V_plus) : SigOk Tb (cfgAt b20) := SigOk.next (l := b19) h (f := 110) (sg := ⟨[.cell (.sl 133) false, .cell (.sl 133) false], [.cell (.sl 133) false]⟩) rfl j_plus hv
theorem j_minus : (vc (A := sem Tb) (cfgAt b20) 6 111 ⟨[.cell (.sl 133) false, .cell (.sl 133) false], [.cell (.sl 133) false]⟩).den = V_minus := by kernel_rfl
theorem s_minus (h : SigOk Tb (cfgAt b20)) (hv : V_minus) : SigOk Tb (cfgAt b21) := SigOk.next (l := b20) h (f := 111) (sg := ⟨[.cell (.sl 133) false, .cell (.sl 133) false], [.cell (.sl 133) false]⟩) rfl j_minus hv
theorem j_times : (vc (A := sem Tb) (cfgAt b21) 6 101 ⟨[.cell (.sl 133) false, .cell (.sl 133) false], [.cell (.sl 133) false]⟩).den = V_times := by kernel_rfl
theorem s_times (h : SigOk Tb (cfgAt b21)) (hv : V_times) : SigOk Tb (cfgAt b22) := SigOk.next (l := b21) h (f := 101) (sg := ⟨[.cell (.sl 133) false, .cell (.sl 133) false], [.cell (.sl 133) false]⟩) rfl j_times hv
theorem j_Clone16 : (vc (A := sem Tb) (cfgAt b22) 6 73 ⟨[.cell (.sl 52) false], [.cell (.sl 52) false]⟩).den = V_Clone16 := by kernel_rfl
theorem s_Clone16 (h : SigOk Tb (cfgAt b22)) (hv : V_Clone16) : SigOk Tb (cfgAt b23) := SigOk.next (l := b22) h (f := 73) (sg := ⟨[.cell (.sl 52) false], [.cell (.sl 52) false]⟩) rfl j_Clone16 hv
theorem j_wValid : (vc (A := sem Tb) (cfgAt b23) 6 104 ⟨[.agg [(.bool, false), (.sl 52, false)]], [.cell (.bool) false]⟩).den = V_wValid := by kernel_rfl
theorem s_wValid (h : SigOk Tb (cfgAt b23)) (hv : V_wValid) : SigOk Tb (cfgAt b24) := SigOk.next (l := b23) h (f := 104) (sg := ⟨[.agg [(.bool, false), (.sl 52, false)]], [.cell (.bool) false]⟩) rfl j_wValid hv
theorem j_wAllValid : (vc (A := sem Tb) (cfgAt b24) 6 97 ⟨[.cell (.sl 32) false], [.cell (.bool) false]⟩).den = V_wAllValid := by kernel_rfl
theorem s_wAllValid (h : SigOk Tb (cfgAt b24)) (hv : V_wAllValid) : SigOk Tb (cfgAt b25) := SigOk.next (l := b24) h (f := 97) (sg := ⟨[.cell (.sl 32) false], [.cell (.bool) false]⟩) rfl j_wAllValid hv
theorem j_wFromInt : (vc (A := sem Tb) (cfgAt b25) 6 66 ⟨[.cell (.int .i64) false], [.agg [(.bool, false), (.sl 52, false)]]⟩).den = V_wFromInt := by kernel_rfl
theorem s_wFromInt (h : SigOk Tb (cfgAt b25)) (hv : V_wFromInt) : SigOk Tb (cfgAt b26) := SigOk.next (l := b25) h (f := 66) (sg := ⟨[.cell (.int .i64) false], [.agg [(.bool, false), (.sl 52, false)]]⟩) rfl j_wFromInt hv
theorem j_result : (vc (A := sem Tb) (cfgAt b26) 6 100 ⟨[.cell (.bool) false, .cell (.sl 133) false], [.agg [(.bool, false), (.sl 52, false)], .cell (.int .i64) false]⟩).den = V_result := by kernel_rfl
theorem s_result (h : SigOk Tb (cfgAt b26)) (hv : V_result) : SigOk Tb (cfgAt b27) := SigOk.next (l := b26) h (f := 100) (sg := ⟨[.cell (.bool) false, .cell (.sl 133) false], [.agg [(.bool, false), (.sl 52, false)], .cell (.int .i64) false]⟩) rfl j_result hv
theorem j_sum : (vc (A := sem Tb) (cfgAt b27) 6 98 ⟨[.cell (.bool) false, .cell (.sl 133) false, .cell (.bool) false, .cell (.sl 133) false], [.agg [(.bool, false), (.sl 52, false)], .cell (.int .i64) false]⟩).den = V_sum := by kernel_rfl
theorem s_sum (h : SigOk Tb (cfgAt b27)) (hv : V_sum) : SigOk Tb (cfgAt b28) := SigOk.next (l := b27) h (f := 98) (sg := ⟨[.cell (.bool) false, .cell (.sl 133) false, .cell (.bool) false, .cell (.sl 133) false], [.agg [(.bool, false), (.sl 52, false)], .cell (.int .i64) false]⟩) rfl j_sum hv
theorem j_wAdd : (vc (A := sem Tb) (cfgAt b28) 6 80 ⟨[.agg [(.bool, false), (.sl 52, false)], .agg [(.bool, false), (.sl 52, false)]], [.agg [(.bool, false), (.sl 52, false)], .cell (.int .i64) false]⟩).den = V_wAdd := by kernel_rfl
theorem s_wAdd (h : SigOk Tb (cfgAt b28)) (hv : V_wAdd) : SigOk Tb (cfgAt b29) := SigOk.next (l := b28) h (f := 80) (sg := ⟨[.agg [(.bool, false), (.sl 52, false)], .agg [(.bool, false), (.sl 52, false)]], [.agg [(.bool, false), (.sl 52, false)], .cell (.int .i64) false]⟩) rfl j_wAdd hv
theorem j_wMul : (vc (A := sem Tb) (cfgAt b29) 6 81 ⟨[.agg [(.bool, false), (.sl 52, false)], .agg [(.bool, false), (.sl 52, false)]], [.agg [(.bool, false), (.sl 52, false)], .cell (.int .i64) false]⟩).den = V_wMul := by kernel_rfl
theorem s_wMul (h : SigOk Tb (cfgAt b29)) (hv : V_wMul) : SigOk Tb (cfgAt b30) := SigOk.next (l := b29) h (f := 81) (sg := ⟨[.agg [(.bool, false), (.sl 52, false)], .agg [(.bool, false), (.sl 52, false)]], [.agg [(.bool, false), (.sl 52, false)], .cell (.int .i64) false]⟩) rfl j_wMul hv
theorem j_wDivMod : (vc (A := sem Tb) (cfgAt b30) 6 96 ⟨[.agg [(.bool, false), (.sl 52, false)], .agg [(.bool, false), (.sl 52, false)]], [.agg [(.bool, false), (.sl 52, false)], .agg [(.bool, false), (.sl 52, false)], .cell (.int .i64) false]⟩).den = V_wDivMod := by kernel_rfl
theorem s_wDivMod (h : SigOk Tb (cfgAt b30)) (hv : V_wDivMod) : SigOk Tb (cfgAt b31) := SigOk.next (l := b30) h (f := 96) (sg := ⟨[.agg [(.bool, false), (.sl 52, false)], .agg [(.bool, false), (.sl 52, false)]], [.agg [(.bool, false), (.sl 52, false)], .agg [(.bool, false), (.sl 52, false)], .cell (.int .i64) false]⟩) rfl j_wDivMod hv
theorem j_wGcd : (vc (A := sem Tb) (cfgAt b31) 6 95 ⟨[.agg [(.bool, false), (.sl 52, false)], .agg [(.bool, false), (.sl 52, false)]], [.agg [(.bool, false), (.sl 52, false)], .cell (.int .i64) false]⟩).den = V_wGcd := by kernel_rfl
theorem s_wGcd (h : SigOk Tb (cfgAt b31)) (hv : V_wGcd) : SigOk Tb (cfgAt b32) := SigOk.next (l := b31) h (f := 95) (sg := ⟨[.agg [(.bool, false), (.sl 52, false)], .agg [(.bool, false), (.sl 52, false)]], [.agg [(.bool, false), (.sl 52, false)], .cell (.int .i64) false]⟩) rfl j_wGcd hv
end Go.Sx.N
