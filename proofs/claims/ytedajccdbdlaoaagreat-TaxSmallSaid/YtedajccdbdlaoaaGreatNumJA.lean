/-
  The conditions are what the executor says. Conditions: none; printed by a program of our own.
-/
import Derived.Test.YtedajccdbdlaoaaGreatNumT
import Derived.Test.YtedajccdbdlaoaaGreatNumVA
import Derived.KernelRfl
namespace Go.Sx.N
open Go.Proofs
theorem j_Sub32 : (vc (A := sem Tb) (cfgAt b0) 6 159 ⟨[.cell (.int .u32) false, .cell (.int .u32) false, .cell (.int .u32) false], [.cell (.int .u32) false, .cell (.int .u32) false]⟩).den = V_Sub32 := by kernel_rfl
theorem s_Sub32 (h : SigOk Tb (cfgAt b0)) (hv : V_Sub32) : SigOk Tb (cfgAt b1) := SigOk.next (l := b0) h (f := 159) (sg := ⟨[.cell (.int .u32) false, .cell (.int .u32) false, .cell (.int .u32) false], [.cell (.int .u32) false, .cell (.int .u32) false]⟩) rfl j_Sub32 hv
theorem j_Add32 : (vc (A := sem Tb) (cfgAt b1) 6 164 ⟨[.cell (.int .u32) false, .cell (.int .u32) false, .cell (.int .u32) false], [.cell (.int .u32) false, .cell (.int .u32) false]⟩).den = V_Add32 := by kernel_rfl
theorem s_Add32 (h : SigOk Tb (cfgAt b1)) (hv : V_Add32) : SigOk Tb (cfgAt b2) := SigOk.next (l := b1) h (f := 164) (sg := ⟨[.cell (.int .u32) false, .cell (.int .u32) false, .cell (.int .u32) false], [.cell (.int .u32) false, .cell (.int .u32) false]⟩) rfl j_Add32 hv
theorem j_Len32 : (vc (A := sem Tb) (cfgAt b2) 6 163 ⟨[.cell (.int .u32) false], [.cell (.int .i64) false]⟩).den = V_Len32 := by kernel_rfl
theorem s_Len32 (h : SigOk Tb (cfgAt b2)) (hv : V_Len32) : SigOk Tb (cfgAt b3) := SigOk.next (l := b2) h (f := 163) (sg := ⟨[.cell (.int .u32) false], [.cell (.int .i64) false]⟩) rfl j_Len32 hv
theorem j_Lz32 : (vc (A := sem Tb) (cfgAt b3) 6 155 ⟨[.cell (.int .u32) false], [.cell (.int .i64) false]⟩).den = V_Lz32 := by kernel_rfl
theorem s_Lz32 (h : SigOk Tb (cfgAt b3)) (hv : V_Lz32) : SigOk Tb (cfgAt b4) := SigOk.next (l := b3) h (f := 155) (sg := ⟨[.cell (.int .u32) false], [.cell (.int .i64) false]⟩) rfl j_Lz32 hv
theorem j_Div32 : (vc (A := sem Tb) (cfgAt b4) 6 162 ⟨[.cell (.int .u32) false, .cell (.int .u32) false, .cell (.int .u32) false], [.cell (.int .u32) false, .cell (.int .u32) false]⟩).den = V_Div32 := by kernel_rfl
theorem s_Div32 (h : SigOk Tb (cfgAt b4)) (hv : V_Div32) : SigOk Tb (cfgAt b5) := SigOk.next (l := b4) h (f := 162) (sg := ⟨[.cell (.int .u32) false, .cell (.int .u32) false, .cell (.int .u32) false], [.cell (.int .u32) false, .cell (.int .u32) false]⟩) rfl j_Div32 hv
theorem j_Clone32 : (vc (A := sem Tb) (cfgAt b5) 6 153 ⟨[.cell (.sl 69) false], [.cell (.sl 69) true]⟩).den = V_Clone32 := by kernel_rfl
theorem s_Clone32 (h : SigOk Tb (cfgAt b5)) (hv : V_Clone32) : SigOk Tb (cfgAt b6) := SigOk.next (l := b5) h (f := 153) (sg := ⟨[.cell (.sl 69) false], [.cell (.sl 69) true]⟩) rfl j_Clone32 hv
theorem j_trim : (vc (A := sem Tb) (cfgAt b6) 6 146 ⟨[.cell (.sl 69) false], [.cell (.sl 69) false]⟩).den = V_trim := by kernel_rfl
theorem s_trim (h : SigOk Tb (cfgAt b6)) (hv : V_trim) : SigOk Tb (cfgAt b7) := SigOk.next (l := b6) h (f := 146) (sg := ⟨[.cell (.sl 69) false], [.cell (.sl 69) false]⟩) rfl j_trim hv
theorem j_pack : (vc (A := sem Tb) (cfgAt b7) 6 100 ⟨[.cell (.sl 45) false], [.cell (.sl 69) false]⟩).den = V_pack := by kernel_rfl
theorem s_pack (h : SigOk Tb (cfgAt b7)) (hv : V_pack) : SigOk Tb (cfgAt b8) := SigOk.next (l := b7) h (f := 100) (sg := ⟨[.cell (.sl 45) false], [.cell (.sl 69) false]⟩) rfl j_pack hv
theorem j_unpack : (vc (A := sem Tb) (cfgAt b8) 6 141 ⟨[.cell (.bool) false, .cell (.sl 69) false], [.agg [(.bool, false), (.sl 45, false)]]⟩).den = V_unpack := by kernel_rfl
theorem s_unpack (h : SigOk Tb (cfgAt b8)) (hv : V_unpack) : SigOk Tb (cfgAt b9) := SigOk.next (l := b8) h (f := 141) (sg := ⟨[.cell (.bool) false, .cell (.sl 69) false], [.agg [(.bool, false), (.sl 45, false)]]⟩) rfl j_unpack hv
theorem j_long : (vc (A := sem Tb) (cfgAt b9) 6 151 ⟨[.cell (.sl 69) false], [.cell (.int .u64) false]⟩).den = V_long := by kernel_rfl
theorem s_long (h : SigOk Tb (cfgAt b9)) (hv : V_long) : SigOk Tb (cfgAt b10) := SigOk.next (l := b9) h (f := 151) (sg := ⟨[.cell (.sl 69) false], [.cell (.int .u64) false]⟩) rfl j_long hv
theorem j_short : (vc (A := sem Tb) (cfgAt b10) 6 152 ⟨[.cell (.int .u64) false], [.cell (.sl 69) false]⟩).den = V_short := by kernel_rfl
theorem s_short (h : SigOk Tb (cfgAt b10)) (hv : V_short) : SigOk Tb (cfgAt b11) := SigOk.next (l := b10) h (f := 152) (sg := ⟨[.cell (.int .u64) false], [.cell (.sl 69) false]⟩) rfl j_short hv
theorem j_compare : (vc (A := sem Tb) (cfgAt b11) 6 99 ⟨[.cell (.sl 69) false, .cell (.sl 69) false], [.cell (.int .i64) false]⟩).den = V_compare := by kernel_rfl
theorem s_compare (h : SigOk Tb (cfgAt b11)) (hv : V_compare) : SigOk Tb (cfgAt b12) := SigOk.next (l := b11) h (f := 99) (sg := ⟨[.cell (.sl 69) false, .cell (.sl 69) false], [.cell (.int .i64) false]⟩) rfl j_compare hv
theorem j_divideShort : (vc (A := sem Tb) (cfgAt b12) 6 154 ⟨[.cell (.sl 69) false, .cell (.int .u32) false], [.cell (.sl 69) false, .cell (.int .u32) false]⟩).den = V_divideShort := by kernel_rfl
theorem s_divideShort (h : SigOk Tb (cfgAt b12)) (hv : V_divideShort) : SigOk Tb (cfgAt b13) := SigOk.next (l := b12) h (f := 154) (sg := ⟨[.cell (.sl 69) false, .cell (.int .u32) false], [.cell (.sl 69) false, .cell (.int .u32) false]⟩) rfl j_divideShort hv
theorem j_shifted : (vc (A := sem Tb) (cfgAt b13) 6 156 ⟨[.cell (.sl 69) false, .cell (.int .i64) false], [.cell (.sl 69) true]⟩).den = V_shifted := by kernel_rfl
theorem s_shifted (h : SigOk Tb (cfgAt b13)) (hv : V_shifted) : SigOk Tb (cfgAt b14) := SigOk.next (l := b13) h (f := 156) (sg := ⟨[.cell (.sl 69) false, .cell (.int .i64) false], [.cell (.sl 69) true]⟩) rfl j_shifted hv
theorem j_divide : (vc (A := sem Tb) (cfgAt b14) 6 143 ⟨[.cell (.sl 69) false, .cell (.sl 69) false], [.cell (.sl 69) false, .cell (.sl 69) false]⟩).den = V_divide := by kernel_rfl
theorem s_divide (h : SigOk Tb (cfgAt b14)) (hv : V_divide) : SigOk Tb (cfgAt b15) := SigOk.next (l := b14) h (f := 143) (sg := ⟨[.cell (.sl 69) false, .cell (.sl 69) false], [.cell (.sl 69) false, .cell (.sl 69) false]⟩) rfl j_divide hv
theorem j_head : (vc (A := sem Tb) (cfgAt b15) 6 160 ⟨[.cell (.sl 69) false, .cell (.int .i64) false, .cell (.int .i64) false], [.cell (.int .u64) false]⟩).den = V_head := by kernel_rfl
theorem s_head (h : SigOk Tb (cfgAt b15)) (hv : V_head) : SigOk Tb (cfgAt b16) := SigOk.next (l := b15) h (f := 160) (sg := ⟨[.cell (.sl 69) false, .cell (.int .i64) false, .cell (.int .i64) false], [.cell (.int .u64) false]⟩) rfl j_head hv
theorem j_simulate : (vc (A := sem Tb) (cfgAt b16) 6 149 ⟨[.cell (.sl 69) false, .cell (.sl 69) false], [.agg [(.int .u64, false), (.int .u64, false), (.int .u64, false), (.int .u64, false), (.bool, false)]]⟩).den = V_simulate := by kernel_rfl
theorem s_simulate (h : SigOk Tb (cfgAt b16)) (hv : V_simulate) : SigOk Tb (cfgAt b17) := SigOk.next (l := b16) h (f := 149) (sg := ⟨[.cell (.sl 69) false, .cell (.sl 69) false], [.agg [(.int .u64, false), (.int .u64, false), (.int .u64, false), (.int .u64, false), (.bool, false)]]⟩) rfl j_simulate hv
theorem j_difference : (vc (A := sem Tb) (cfgAt b17) 6 150 ⟨[.cell (.int .u64) false, .cell (.sl 69) false, .cell (.int .u64) false, .cell (.sl 69) false], [.cell (.sl 69) false]⟩).den = V_difference := by kernel_rfl
theorem s_difference (h : SigOk Tb (cfgAt b17)) (hv : V_difference) : SigOk Tb (cfgAt b18) := SigOk.next (l := b17) h (f := 150) (sg := ⟨[.cell (.int .u64) false, .cell (.sl 69) false, .cell (.int .u64) false, .cell (.sl 69) false], [.cell (.sl 69) false]⟩) rfl j_difference hv
theorem j_commonDivisor : (vc (A := sem Tb) (cfgAt b18) 6 142 ⟨[.cell (.sl 69) false, .cell (.sl 69) false], [.cell (.sl 69) false]⟩).den = V_commonDivisor := by kernel_rfl
theorem s_commonDivisor (h : SigOk Tb (cfgAt b18)) (hv : V_commonDivisor) : SigOk Tb (cfgAt b19) := SigOk.next (l := b18) h (f := 142) (sg := ⟨[.cell (.sl 69) false, .cell (.sl 69) false], [.cell (.sl 69) false]⟩) rfl j_commonDivisor hv
end Go.Sx.N
