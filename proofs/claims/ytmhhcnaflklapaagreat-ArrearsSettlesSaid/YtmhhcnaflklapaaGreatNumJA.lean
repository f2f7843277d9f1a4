/-
  The conditions are what the executor says. Conditions: none; printed by a program of our own.
-/
import Derived.Test.YtmhhcnaflklapaaGreatNumT
import Derived.Test.YtmhhcnaflklapaaGreatNumVA
import Derived.KernelRfl
namespace Go.Sx.N
open Go.Proofs
theorem j_Sub32 : (vc (A := sem Tb) (cfgAt b0) 6 190 ⟨[.cell (.int .u32) false, .cell (.int .u32) false, .cell (.int .u32) false], [.cell (.int .u32) false, .cell (.int .u32) false]⟩).den = V_Sub32 := by kernel_rfl
theorem s_Sub32 (h : SigOk Tb (cfgAt b0)) (hv : V_Sub32) : SigOk Tb (cfgAt b1) := SigOk.next (l := b0) h (f := 190) (sg := ⟨[.cell (.int .u32) false, .cell (.int .u32) false, .cell (.int .u32) false], [.cell (.int .u32) false, .cell (.int .u32) false]⟩) rfl j_Sub32 hv
theorem j_Add32 : (vc (A := sem Tb) (cfgAt b1) 6 195 ⟨[.cell (.int .u32) false, .cell (.int .u32) false, .cell (.int .u32) false], [.cell (.int .u32) false, .cell (.int .u32) false]⟩).den = V_Add32 := by kernel_rfl
theorem s_Add32 (h : SigOk Tb (cfgAt b1)) (hv : V_Add32) : SigOk Tb (cfgAt b2) := SigOk.next (l := b1) h (f := 195) (sg := ⟨[.cell (.int .u32) false, .cell (.int .u32) false, .cell (.int .u32) false], [.cell (.int .u32) false, .cell (.int .u32) false]⟩) rfl j_Add32 hv
theorem j_Len32 : (vc (A := sem Tb) (cfgAt b2) 6 194 ⟨[.cell (.int .u32) false], [.cell (.int .i64) false]⟩).den = V_Len32 := by kernel_rfl
theorem s_Len32 (h : SigOk Tb (cfgAt b2)) (hv : V_Len32) : SigOk Tb (cfgAt b3) := SigOk.next (l := b2) h (f := 194) (sg := ⟨[.cell (.int .u32) false], [.cell (.int .i64) false]⟩) rfl j_Len32 hv
theorem j_Lz32 : (vc (A := sem Tb) (cfgAt b3) 6 186 ⟨[.cell (.int .u32) false], [.cell (.int .i64) false]⟩).den = V_Lz32 := by kernel_rfl
theorem s_Lz32 (h : SigOk Tb (cfgAt b3)) (hv : V_Lz32) : SigOk Tb (cfgAt b4) := SigOk.next (l := b3) h (f := 186) (sg := ⟨[.cell (.int .u32) false], [.cell (.int .i64) false]⟩) rfl j_Lz32 hv
theorem j_Div32 : (vc (A := sem Tb) (cfgAt b4) 6 193 ⟨[.cell (.int .u32) false, .cell (.int .u32) false, .cell (.int .u32) false], [.cell (.int .u32) false, .cell (.int .u32) false]⟩).den = V_Div32 := by kernel_rfl
theorem s_Div32 (h : SigOk Tb (cfgAt b4)) (hv : V_Div32) : SigOk Tb (cfgAt b5) := SigOk.next (l := b4) h (f := 193) (sg := ⟨[.cell (.int .u32) false, .cell (.int .u32) false, .cell (.int .u32) false], [.cell (.int .u32) false, .cell (.int .u32) false]⟩) rfl j_Div32 hv
theorem j_Clone32 : (vc (A := sem Tb) (cfgAt b5) 6 184 ⟨[.cell (.sl 22) false], [.cell (.sl 22) true]⟩).den = V_Clone32 := by kernel_rfl
theorem s_Clone32 (h : SigOk Tb (cfgAt b5)) (hv : V_Clone32) : SigOk Tb (cfgAt b6) := SigOk.next (l := b5) h (f := 184) (sg := ⟨[.cell (.sl 22) false], [.cell (.sl 22) true]⟩) rfl j_Clone32 hv
theorem j_trim : (vc (A := sem Tb) (cfgAt b6) 6 178 ⟨[.cell (.sl 22) false], [.cell (.sl 22) false]⟩).den = V_trim := by kernel_rfl
theorem s_trim (h : SigOk Tb (cfgAt b6)) (hv : V_trim) : SigOk Tb (cfgAt b7) := SigOk.next (l := b6) h (f := 178) (sg := ⟨[.cell (.sl 22) false], [.cell (.sl 22) false]⟩) rfl j_trim hv
theorem j_pack : (vc (A := sem Tb) (cfgAt b7) 6 160 ⟨[.cell (.sl 33) false], [.cell (.sl 22) false]⟩).den = V_pack := by kernel_rfl
theorem s_pack (h : SigOk Tb (cfgAt b7)) (hv : V_pack) : SigOk Tb (cfgAt b8) := SigOk.next (l := b7) h (f := 160) (sg := ⟨[.cell (.sl 33) false], [.cell (.sl 22) false]⟩) rfl j_pack hv
theorem j_unpack : (vc (A := sem Tb) (cfgAt b8) 6 173 ⟨[.cell (.bool) false, .cell (.sl 22) false], [.agg [(.bool, false), (.sl 33, false)]]⟩).den = V_unpack := by kernel_rfl
theorem s_unpack (h : SigOk Tb (cfgAt b8)) (hv : V_unpack) : SigOk Tb (cfgAt b9) := SigOk.next (l := b8) h (f := 173) (sg := ⟨[.cell (.bool) false, .cell (.sl 22) false], [.agg [(.bool, false), (.sl 33, false)]]⟩) rfl j_unpack hv
theorem j_long : (vc (A := sem Tb) (cfgAt b9) 6 182 ⟨[.cell (.sl 22) false], [.cell (.int .u64) false]⟩).den = V_long := by kernel_rfl
theorem s_long (h : SigOk Tb (cfgAt b9)) (hv : V_long) : SigOk Tb (cfgAt b10) := SigOk.next (l := b9) h (f := 182) (sg := ⟨[.cell (.sl 22) false], [.cell (.int .u64) false]⟩) rfl j_long hv
theorem j_short : (vc (A := sem Tb) (cfgAt b10) 6 183 ⟨[.cell (.int .u64) false], [.cell (.sl 22) false]⟩).den = V_short := by kernel_rfl
theorem s_short (h : SigOk Tb (cfgAt b10)) (hv : V_short) : SigOk Tb (cfgAt b11) := SigOk.next (l := b10) h (f := 183) (sg := ⟨[.cell (.int .u64) false], [.cell (.sl 22) false]⟩) rfl j_short hv
theorem j_compare : (vc (A := sem Tb) (cfgAt b11) 6 161 ⟨[.cell (.sl 22) false, .cell (.sl 22) false], [.cell (.int .i64) false]⟩).den = V_compare := by kernel_rfl
theorem s_compare (h : SigOk Tb (cfgAt b11)) (hv : V_compare) : SigOk Tb (cfgAt b12) := SigOk.next (l := b11) h (f := 161) (sg := ⟨[.cell (.sl 22) false, .cell (.sl 22) false], [.cell (.int .i64) false]⟩) rfl j_compare hv
theorem j_divideShort : (vc (A := sem Tb) (cfgAt b12) 6 185 ⟨[.cell (.sl 22) false, .cell (.int .u32) false], [.cell (.sl 22) false, .cell (.int .u32) false]⟩).den = V_divideShort := by kernel_rfl
theorem s_divideShort (h : SigOk Tb (cfgAt b12)) (hv : V_divideShort) : SigOk Tb (cfgAt b13) := SigOk.next (l := b12) h (f := 185) (sg := ⟨[.cell (.sl 22) false, .cell (.int .u32) false], [.cell (.sl 22) false, .cell (.int .u32) false]⟩) rfl j_divideShort hv
theorem j_shifted : (vc (A := sem Tb) (cfgAt b13) 6 187 ⟨[.cell (.sl 22) false, .cell (.int .i64) false], [.cell (.sl 22) true]⟩).den = V_shifted := by kernel_rfl
theorem s_shifted (h : SigOk Tb (cfgAt b13)) (hv : V_shifted) : SigOk Tb (cfgAt b14) := SigOk.next (l := b13) h (f := 187) (sg := ⟨[.cell (.sl 22) false, .cell (.int .i64) false], [.cell (.sl 22) true]⟩) rfl j_shifted hv
theorem j_divide : (vc (A := sem Tb) (cfgAt b14) 6 175 ⟨[.cell (.sl 22) false, .cell (.sl 22) false], [.cell (.sl 22) false, .cell (.sl 22) false]⟩).den = V_divide := by kernel_rfl
theorem s_divide (h : SigOk Tb (cfgAt b14)) (hv : V_divide) : SigOk Tb (cfgAt b15) := SigOk.next (l := b14) h (f := 175) (sg := ⟨[.cell (.sl 22) false, .cell (.sl 22) false], [.cell (.sl 22) false, .cell (.sl 22) false]⟩) rfl j_divide hv
theorem j_head : (vc (A := sem Tb) (cfgAt b15) 6 191 ⟨[.cell (.sl 22) false, .cell (.int .i64) false, .cell (.int .i64) false], [.cell (.int .u64) false]⟩).den = V_head := by kernel_rfl
theorem s_head (h : SigOk Tb (cfgAt b15)) (hv : V_head) : SigOk Tb (cfgAt b16) := SigOk.next (l := b15) h (f := 191) (sg := ⟨[.cell (.sl 22) false, .cell (.int .i64) false, .cell (.int .i64) false], [.cell (.int .u64) false]⟩) rfl j_head hv
theorem j_simulate : (vc (A := sem Tb) (cfgAt b16) 6 180 ⟨[.cell (.sl 22) false, .cell (.sl 22) false], [.agg [(.int .u64, false), (.int .u64, false), (.int .u64, false), (.int .u64, false), (.bool, false)]]⟩).den = V_simulate := by kernel_rfl
theorem s_simulate (h : SigOk Tb (cfgAt b16)) (hv : V_simulate) : SigOk Tb (cfgAt b17) := SigOk.next (l := b16) h (f := 180) (sg := ⟨[.cell (.sl 22) false, .cell (.sl 22) false], [.agg [(.int .u64, false), (.int .u64, false), (.int .u64, false), (.int .u64, false), (.bool, false)]]⟩) rfl j_simulate hv
theorem j_difference : (vc (A := sem Tb) (cfgAt b17) 6 181 ⟨[.cell (.int .u64) false, .cell (.sl 22) false, .cell (.int .u64) false, .cell (.sl 22) false], [.cell (.sl 22) false]⟩).den = V_difference := by kernel_rfl
theorem s_difference (h : SigOk Tb (cfgAt b17)) (hv : V_difference) : SigOk Tb (cfgAt b18) := SigOk.next (l := b17) h (f := 181) (sg := ⟨[.cell (.int .u64) false, .cell (.sl 22) false, .cell (.int .u64) false, .cell (.sl 22) false], [.cell (.sl 22) false]⟩) rfl j_difference hv
theorem j_commonDivisor : (vc (A := sem Tb) (cfgAt b18) 6 174 ⟨[.cell (.sl 22) false, .cell (.sl 22) false], [.cell (.sl 22) false]⟩).den = V_commonDivisor := by kernel_rfl
theorem s_commonDivisor (h : SigOk Tb (cfgAt b18)) (hv : V_commonDivisor) : SigOk Tb (cfgAt b19) := SigOk.next (l := b18) h (f := 174) (sg := ⟨[.cell (.sl 22) false, .cell (.sl 22) false], [.cell (.sl 22) false]⟩) rfl j_commonDivisor hv
end Go.Sx.N
