/-
  The conditions are what the executor says. Conditions: none; printed by a program of our own.
-/
import Derived.Test.YtedajccdbdlaoaaGreatNumT
import Derived.Test.YtedajccdbdlaoaaGreatNumVD
import Derived.KernelRfl
namespace Go.Sx.N
open Go.Proofs
theorem j_rTrim : (vc (A := sem Tb) (cfgAt b53) 6 140 ⟨[.cell (.sl 45) false], [.cell (.sl 45) false]⟩).den = V_rTrim := by kernel_rfl
theorem s_rTrim (h : SigOk Tb (cfgAt b53)) (hv : V_rTrim) : SigOk Tb (cfgAt b54) := SigOk.next (l := b53) h (f := 140) (sg := ⟨[.cell (.sl 45) false], [.cell (.sl 45) false]⟩) rfl j_rTrim hv
theorem j_rLess : (vc (A := sem Tb) (cfgAt b54) 6 114 ⟨[.cell (.sl 45) false, .cell (.sl 45) false], [.cell (.bool) false]⟩).den = V_rLess := by kernel_rfl
theorem s_rLess (h : SigOk Tb (cfgAt b54)) (hv : V_rLess) : SigOk Tb (cfgAt b55) := SigOk.next (l := b54) h (f := 114) (sg := ⟨[.cell (.sl 45) false, .cell (.sl 45) false], [.cell (.bool) false]⟩) rfl j_rLess hv
theorem j_rPlus : (vc (A := sem Tb) (cfgAt b55) 6 115 ⟨[.cell (.sl 45) false, .cell (.sl 45) false], [.cell (.sl 45) false]⟩).den = V_rPlus := by kernel_rfl
theorem s_rPlus (h : SigOk Tb (cfgAt b55)) (hv : V_rPlus) : SigOk Tb (cfgAt b56) := SigOk.next (l := b55) h (f := 115) (sg := ⟨[.cell (.sl 45) false, .cell (.sl 45) false], [.cell (.sl 45) false]⟩) rfl j_rPlus hv
theorem j_rMinus : (vc (A := sem Tb) (cfgAt b56) 6 117 ⟨[.cell (.sl 45) false, .cell (.sl 45) false], [.cell (.sl 45) false]⟩).den = V_rMinus := by kernel_rfl
theorem s_rMinus (h : SigOk Tb (cfgAt b56)) (hv : V_rMinus) : SigOk Tb (cfgAt b57) := SigOk.next (l := b56) h (f := 117) (sg := ⟨[.cell (.sl 45) false, .cell (.sl 45) false], [.cell (.sl 45) false]⟩) rfl j_rMinus hv
theorem j_rTimes : (vc (A := sem Tb) (cfgAt b57) 6 148 ⟨[.cell (.sl 45) false, .cell (.sl 45) false], [.cell (.sl 45) false]⟩).den = V_rTimes := by kernel_rfl
theorem s_rTimes (h : SigOk Tb (cfgAt b57)) (hv : V_rTimes) : SigOk Tb (cfgAt b58) := SigOk.next (l := b57) h (f := 148) (sg := ⟨[.cell (.sl 45) false, .cell (.sl 45) false], [.cell (.sl 45) false]⟩) rfl j_rTimes hv
theorem j_rHalf : (vc (A := sem Tb) (cfgAt b58) 6 116 ⟨[.cell (.sl 45) false], [.cell (.sl 45) false]⟩).den = V_rHalf := by kernel_rfl
theorem s_rHalf (h : SigOk Tb (cfgAt b58)) (hv : V_rHalf) : SigOk Tb (cfgAt b59) := SigOk.next (l := b58) h (f := 116) (sg := ⟨[.cell (.sl 45) false], [.cell (.sl 45) false]⟩) rfl j_rHalf hv
theorem j_rShort : (vc (A := sem Tb) (cfgAt b59) 6 113 ⟨[.cell (.sl 45) false, .cell (.int .i64) false], [.cell (.sl 45) false, .cell (.sl 45) false]⟩).den = V_rShort := by kernel_rfl
theorem s_rShort (h : SigOk Tb (cfgAt b59)) (hv : V_rShort) : SigOk Tb (cfgAt b60) := SigOk.next (l := b59) h (f := 113) (sg := ⟨[.cell (.sl 45) false, .cell (.int .i64) false], [.cell (.sl 45) false, .cell (.sl 45) false]⟩) rfl j_rShort hv
theorem j_rDivided : (vc (A := sem Tb) (cfgAt b60) 6 80 ⟨[.cell (.sl 45) false, .cell (.sl 45) false], [.cell (.sl 45) false, .cell (.sl 45) false]⟩).den = V_rDivided := by kernel_rfl
theorem s_rDivided (h : SigOk Tb (cfgAt b60)) (hv : V_rDivided) : SigOk Tb (cfgAt b61) := SigOk.next (l := b60) h (f := 80) (sg := ⟨[.cell (.sl 45) false, .cell (.sl 45) false], [.cell (.sl 45) false, .cell (.sl 45) false]⟩) rfl j_rDivided hv
theorem j_rMake : (vc (A := sem Tb) (cfgAt b61) 6 79 ⟨[.cell (.bool) false, .cell (.sl 45) false], [.agg [(.bool, false), (.sl 45, false)]]⟩).den = V_rMake := by kernel_rfl
theorem s_rMake (h : SigOk Tb (cfgAt b61)) (hv : V_rMake) : SigOk Tb (cfgAt b62) := SigOk.next (l := b61) h (f := 79) (sg := ⟨[.cell (.bool) false, .cell (.sl 45) false], [.agg [(.bool, false), (.sl 45, false)]]⟩) rfl j_rMake hv
theorem j_rValid1 : (vc (A := sem Tb) (cfgAt b62) 6 111 ⟨[.agg [(.bool, false), (.sl 45, false)]], [.cell (.bool) false]⟩).den = V_rValid1 := by kernel_rfl
theorem s_rValid1 (h : SigOk Tb (cfgAt b62)) (hv : V_rValid1) : SigOk Tb (cfgAt b63) := SigOk.next (l := b62) h (f := 111) (sg := ⟨[.agg [(.bool, false), (.sl 45, false)]], [.cell (.bool) false]⟩) rfl j_rValid1 hv
theorem j_rFromInt1 : (vc (A := sem Tb) (cfgAt b63) 6 47 ⟨[.cell (.int .i64) false], [.agg [(.bool, false), (.sl 45, false)]]⟩).den = V_rFromInt1 := by kernel_rfl
theorem s_rFromInt1 (h : SigOk Tb (cfgAt b63)) (hv : V_rFromInt1) : SigOk Tb (cfgAt b64) := SigOk.next (l := b63) h (f := 47) (sg := ⟨[.cell (.int .i64) false], [.agg [(.bool, false), (.sl 45, false)]]⟩) rfl j_rFromInt1 hv
theorem j_rInt1 : (vc (A := sem Tb) (cfgAt b64) 6 110 ⟨[.agg [(.bool, false), (.sl 45, false)]], [.cell (.int .i64) false, .cell (.int .i64) false]⟩).den = V_rInt1 := by kernel_rfl
theorem s_rInt1 (h : SigOk Tb (cfgAt b64)) (hv : V_rInt1) : SigOk Tb (cfgAt b65) := SigOk.next (l := b64) h (f := 110) (sg := ⟨[.agg [(.bool, false), (.sl 45, false)]], [.cell (.int .i64) false, .cell (.int .i64) false]⟩) rfl j_rInt1 hv
theorem j_rNeg1 : (vc (A := sem Tb) (cfgAt b65) 6 136 ⟨[.agg [(.bool, false), (.sl 45, false)]], [.agg [(.bool, false), (.sl 45, false)]]⟩).den = V_rNeg1 := by kernel_rfl
theorem s_rNeg1 (h : SigOk Tb (cfgAt b65)) (hv : V_rNeg1) : SigOk Tb (cfgAt b66) := SigOk.next (l := b65) h (f := 136) (sg := ⟨[.agg [(.bool, false), (.sl 45, false)]], [.agg [(.bool, false), (.sl 45, false)]]⟩) rfl j_rNeg1 hv
theorem j_rSum1 : (vc (A := sem Tb) (cfgAt b66) 6 139 ⟨[.agg [(.bool, false), (.sl 45, false)], .agg [(.bool, false), (.sl 45, false)]], [.agg [(.bool, false), (.sl 45, false)]]⟩).den = V_rSum1 := by kernel_rfl
theorem s_rSum1 (h : SigOk Tb (cfgAt b66)) (hv : V_rSum1) : SigOk Tb (cfgAt b67) := SigOk.next (l := b66) h (f := 139) (sg := ⟨[.agg [(.bool, false), (.sl 45, false)], .agg [(.bool, false), (.sl 45, false)]], [.agg [(.bool, false), (.sl 45, false)]]⟩) rfl j_rSum1 hv
theorem j_rProduct1 : (vc (A := sem Tb) (cfgAt b67) 6 138 ⟨[.agg [(.bool, false), (.sl 45, false)], .agg [(.bool, false), (.sl 45, false)]], [.agg [(.bool, false), (.sl 45, false)]]⟩).den = V_rProduct1 := by kernel_rfl
theorem s_rProduct1 (h : SigOk Tb (cfgAt b67)) (hv : V_rProduct1) : SigOk Tb (cfgAt b68) := SigOk.next (l := b67) h (f := 138) (sg := ⟨[.agg [(.bool, false), (.sl 45, false)], .agg [(.bool, false), (.sl 45, false)]], [.agg [(.bool, false), (.sl 45, false)]]⟩) rfl j_rProduct1 hv
theorem j_rFloor1 : (vc (A := sem Tb) (cfgAt b68) 6 109 ⟨[.agg [(.bool, false), (.sl 45, false)], .agg [(.bool, false), (.sl 45, false)]], [.agg [(.bool, false), (.sl 45, false)], .agg [(.bool, false), (.sl 45, false)]]⟩).den = V_rFloor1 := by kernel_rfl
theorem s_rFloor1 (h : SigOk Tb (cfgAt b68)) (hv : V_rFloor1) : SigOk Tb (cfgAt b69) := SigOk.next (l := b68) h (f := 109) (sg := ⟨[.agg [(.bool, false), (.sl 45, false)], .agg [(.bool, false), (.sl 45, false)]], [.agg [(.bool, false), (.sl 45, false)], .agg [(.bool, false), (.sl 45, false)]]⟩) rfl j_rFloor1 hv
theorem j_rCommon : (vc (A := sem Tb) (cfgAt b69) 6 77 ⟨[.cell (.sl 45) false, .cell (.sl 45) false], [.cell (.sl 45) false]⟩).den = V_rCommon := by kernel_rfl
theorem s_rCommon (h : SigOk Tb (cfgAt b69)) (hv : V_rCommon) : SigOk Tb (cfgAt b70) := SigOk.next (l := b69) h (f := 77) (sg := ⟨[.cell (.sl 45) false, .cell (.sl 45) false], [.cell (.sl 45) false]⟩) rfl j_rCommon hv
theorem j_rOrder1 : (vc (A := sem Tb) (cfgAt b70) 6 137 ⟨[.agg [(.bool, false), (.sl 45, false)], .agg [(.bool, false), (.sl 45, false)]], [.cell (.int .i64) false]⟩).den = V_rOrder1 := by kernel_rfl
theorem s_rOrder1 (h : SigOk Tb (cfgAt b70)) (hv : V_rOrder1) : SigOk Tb (cfgAt b71) := SigOk.next (l := b70) h (f := 137) (sg := ⟨[.agg [(.bool, false), (.sl 45, false)], .agg [(.bool, false), (.sl 45, false)]], [.cell (.int .i64) false]⟩) rfl j_rOrder1 hv
end Go.Sx.N
