/-
  The conditions are what the executor says. Conditions: none; printed by a program of our own.
-/
import Derived.Test.YtljmbenpkbjmmaaGreatNumT
import Derived.Test.YtljmbenpkbjmmaaGreatNumVD
import Derived.KernelRfl
namespace Go.Sx.N
open Go.Proofs
theorem j_rTrim : (vc (A := sem Tb) (cfgAt b47) 6 128 ⟨[.cell (.sl 97) false], [.cell (.sl 97) false]⟩).den = V_rTrim := by kernel_rfl
theorem s_rTrim (h : SigOk Tb (cfgAt b47)) (hv : V_rTrim) : SigOk Tb (cfgAt b48) := SigOk.next (l := b47) h (f := 128) (sg := ⟨[.cell (.sl 97) false], [.cell (.sl 97) false]⟩) rfl j_rTrim hv
theorem j_rLess : (vc (A := sem Tb) (cfgAt b48) 6 126 ⟨[.cell (.sl 97) false, .cell (.sl 97) false], [.cell (.bool) false]⟩).den = V_rLess := by kernel_rfl
theorem s_rLess (h : SigOk Tb (cfgAt b48)) (hv : V_rLess) : SigOk Tb (cfgAt b49) := SigOk.next (l := b48) h (f := 126) (sg := ⟨[.cell (.sl 97) false, .cell (.sl 97) false], [.cell (.bool) false]⟩) rfl j_rLess hv
theorem j_rPlus : (vc (A := sem Tb) (cfgAt b49) 6 99 ⟨[.cell (.sl 97) false, .cell (.sl 97) false], [.cell (.sl 97) false]⟩).den = V_rPlus := by kernel_rfl
theorem s_rPlus (h : SigOk Tb (cfgAt b49)) (hv : V_rPlus) : SigOk Tb (cfgAt b50) := SigOk.next (l := b49) h (f := 99) (sg := ⟨[.cell (.sl 97) false, .cell (.sl 97) false], [.cell (.sl 97) false]⟩) rfl j_rPlus hv
theorem j_rMinus : (vc (A := sem Tb) (cfgAt b50) 6 100 ⟨[.cell (.sl 97) false, .cell (.sl 97) false], [.cell (.sl 97) false]⟩).den = V_rMinus := by kernel_rfl
theorem s_rMinus (h : SigOk Tb (cfgAt b50)) (hv : V_rMinus) : SigOk Tb (cfgAt b51) := SigOk.next (l := b50) h (f := 100) (sg := ⟨[.cell (.sl 97) false, .cell (.sl 97) false], [.cell (.sl 97) false]⟩) rfl j_rMinus hv
theorem j_rTimes : (vc (A := sem Tb) (cfgAt b51) 6 124 ⟨[.cell (.sl 97) false, .cell (.sl 97) false], [.cell (.sl 97) false]⟩).den = V_rTimes := by kernel_rfl
theorem s_rTimes (h : SigOk Tb (cfgAt b51)) (hv : V_rTimes) : SigOk Tb (cfgAt b52) := SigOk.next (l := b51) h (f := 124) (sg := ⟨[.cell (.sl 97) false, .cell (.sl 97) false], [.cell (.sl 97) false]⟩) rfl j_rTimes hv
theorem j_rHalf : (vc (A := sem Tb) (cfgAt b52) 6 127 ⟨[.cell (.sl 97) false], [.cell (.sl 97) false]⟩).den = V_rHalf := by kernel_rfl
theorem s_rHalf (h : SigOk Tb (cfgAt b52)) (hv : V_rHalf) : SigOk Tb (cfgAt b53) := SigOk.next (l := b52) h (f := 127) (sg := ⟨[.cell (.sl 97) false], [.cell (.sl 97) false]⟩) rfl j_rHalf hv
theorem j_rShort : (vc (A := sem Tb) (cfgAt b53) 6 125 ⟨[.cell (.sl 97) false, .cell (.int .i64) false], [.cell (.sl 97) false, .cell (.sl 97) false]⟩).den = V_rShort := by kernel_rfl
theorem s_rShort (h : SigOk Tb (cfgAt b53)) (hv : V_rShort) : SigOk Tb (cfgAt b54) := SigOk.next (l := b53) h (f := 125) (sg := ⟨[.cell (.sl 97) false, .cell (.int .i64) false], [.cell (.sl 97) false, .cell (.sl 97) false]⟩) rfl j_rShort hv
theorem j_rDivided : (vc (A := sem Tb) (cfgAt b54) 6 98 ⟨[.cell (.sl 97) false, .cell (.sl 97) false], [.cell (.sl 97) false, .cell (.sl 97) false]⟩).den = V_rDivided := by kernel_rfl
theorem s_rDivided (h : SigOk Tb (cfgAt b54)) (hv : V_rDivided) : SigOk Tb (cfgAt b55) := SigOk.next (l := b54) h (f := 98) (sg := ⟨[.cell (.sl 97) false, .cell (.sl 97) false], [.cell (.sl 97) false, .cell (.sl 97) false]⟩) rfl j_rDivided hv
theorem j_rMake : (vc (A := sem Tb) (cfgAt b55) 6 97 ⟨[.cell (.bool) false, .cell (.sl 97) false], [.agg [(.bool, false), (.sl 97, false)]]⟩).den = V_rMake := by kernel_rfl
theorem s_rMake (h : SigOk Tb (cfgAt b55)) (hv : V_rMake) : SigOk Tb (cfgAt b56) := SigOk.next (l := b55) h (f := 97) (sg := ⟨[.cell (.bool) false, .cell (.sl 97) false], [.agg [(.bool, false), (.sl 97, false)]]⟩) rfl j_rMake hv
theorem j_rValid1 : (vc (A := sem Tb) (cfgAt b56) 6 66 ⟨[.agg [(.bool, false), (.sl 97, false)]], [.cell (.bool) false]⟩).den = V_rValid1 := by kernel_rfl
theorem s_rValid1 (h : SigOk Tb (cfgAt b56)) (hv : V_rValid1) : SigOk Tb (cfgAt b57) := SigOk.next (l := b56) h (f := 66) (sg := ⟨[.agg [(.bool, false), (.sl 97, false)]], [.cell (.bool) false]⟩) rfl j_rValid1 hv
theorem j_rFromInt1 : (vc (A := sem Tb) (cfgAt b57) 6 64 ⟨[.cell (.int .i64) false], [.agg [(.bool, false), (.sl 97, false)]]⟩).den = V_rFromInt1 := by kernel_rfl
theorem s_rFromInt1 (h : SigOk Tb (cfgAt b57)) (hv : V_rFromInt1) : SigOk Tb (cfgAt b58) := SigOk.next (l := b57) h (f := 64) (sg := ⟨[.cell (.int .i64) false], [.agg [(.bool, false), (.sl 97, false)]]⟩) rfl j_rFromInt1 hv
theorem j_rInt1 : (vc (A := sem Tb) (cfgAt b58) 6 39 ⟨[.agg [(.bool, false), (.sl 97, false)]], [.cell (.int .i64) false, .cell (.int .i64) false]⟩).den = V_rInt1 := by kernel_rfl
theorem s_rInt1 (h : SigOk Tb (cfgAt b58)) (hv : V_rInt1) : SigOk Tb (cfgAt b59) := SigOk.next (l := b58) h (f := 39) (sg := ⟨[.agg [(.bool, false), (.sl 97, false)]], [.cell (.int .i64) false, .cell (.int .i64) false]⟩) rfl j_rInt1 hv
theorem j_rNeg1 : (vc (A := sem Tb) (cfgAt b59) 6 140 ⟨[.agg [(.bool, false), (.sl 97, false)]], [.agg [(.bool, false), (.sl 97, false)]]⟩).den = V_rNeg1 := by kernel_rfl
theorem s_rNeg1 (h : SigOk Tb (cfgAt b59)) (hv : V_rNeg1) : SigOk Tb (cfgAt b60) := SigOk.next (l := b59) h (f := 140) (sg := ⟨[.agg [(.bool, false), (.sl 97, false)]], [.agg [(.bool, false), (.sl 97, false)]]⟩) rfl j_rNeg1 hv
theorem j_rSum1 : (vc (A := sem Tb) (cfgAt b60) 6 139 ⟨[.agg [(.bool, false), (.sl 97, false)], .agg [(.bool, false), (.sl 97, false)]], [.agg [(.bool, false), (.sl 97, false)]]⟩).den = V_rSum1 := by kernel_rfl
theorem s_rSum1 (h : SigOk Tb (cfgAt b60)) (hv : V_rSum1) : SigOk Tb (cfgAt b61) := SigOk.next (l := b60) h (f := 139) (sg := ⟨[.agg [(.bool, false), (.sl 97, false)], .agg [(.bool, false), (.sl 97, false)]], [.agg [(.bool, false), (.sl 97, false)]]⟩) rfl j_rSum1 hv
theorem j_rProduct1 : (vc (A := sem Tb) (cfgAt b61) 6 96 ⟨[.agg [(.bool, false), (.sl 97, false)], .agg [(.bool, false), (.sl 97, false)]], [.agg [(.bool, false), (.sl 97, false)]]⟩).den = V_rProduct1 := by kernel_rfl
theorem s_rProduct1 (h : SigOk Tb (cfgAt b61)) (hv : V_rProduct1) : SigOk Tb (cfgAt b62) := SigOk.next (l := b61) h (f := 96) (sg := ⟨[.agg [(.bool, false), (.sl 97, false)], .agg [(.bool, false), (.sl 97, false)]], [.agg [(.bool, false), (.sl 97, false)]]⟩) rfl j_rProduct1 hv
theorem j_rFloor1 : (vc (A := sem Tb) (cfgAt b62) 6 65 ⟨[.agg [(.bool, false), (.sl 97, false)], .agg [(.bool, false), (.sl 97, false)]], [.agg [(.bool, false), (.sl 97, false)], .agg [(.bool, false), (.sl 97, false)]]⟩).den = V_rFloor1 := by kernel_rfl
theorem s_rFloor1 (h : SigOk Tb (cfgAt b62)) (hv : V_rFloor1) : SigOk Tb (cfgAt b63) := SigOk.next (l := b62) h (f := 65) (sg := ⟨[.agg [(.bool, false), (.sl 97, false)], .agg [(.bool, false), (.sl 97, false)]], [.agg [(.bool, false), (.sl 97, false)], .agg [(.bool, false), (.sl 97, false)]]⟩) rfl j_rFloor1 hv
theorem j_rCommon : (vc (A := sem Tb) (cfgAt b63) 6 93 ⟨[.cell (.sl 97) false, .cell (.sl 97) false], [.cell (.sl 97) false]⟩).den = V_rCommon := by kernel_rfl
theorem s_rCommon (h : SigOk Tb (cfgAt b63)) (hv : V_rCommon) : SigOk Tb (cfgAt b64) := SigOk.next (l := b63) h (f := 93) (sg := ⟨[.cell (.sl 97) false, .cell (.sl 97) false], [.cell (.sl 97) false]⟩) rfl j_rCommon hv
theorem j_rOrder1 : (vc (A := sem Tb) (cfgAt b64) 6 123 ⟨[.agg [(.bool, false), (.sl 97, false)], .agg [(.bool, false), (.sl 97, false)]], [.cell (.int .i64) false]⟩).den = V_rOrder1 := by kernel_rfl
theorem s_rOrder1 (h : SigOk Tb (cfgAt b64)) (hv : V_rOrder1) : SigOk Tb (cfgAt b65) := SigOk.next (l := b64) h (f := 123) (sg := ⟨[.agg [(.bool, false), (.sl 97, false)], .agg [(.bool, false), (.sl 97, false)]], [.cell (.int .i64) false]⟩) rfl j_rOrder1 hv
end Go.Sx.N
