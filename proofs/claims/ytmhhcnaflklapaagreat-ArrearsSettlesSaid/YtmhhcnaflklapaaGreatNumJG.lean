/-
  The conditions are what the executor says. Conditions: none; printed by a program of our own.
-/
import Derived.Test.YtmhhcnaflklapaaGreatNumT
import Derived.Test.YtmhhcnaflklapaaGreatNumVG
import Derived.KernelRfl
namespace Go.Sx.N
open Go.Proofs
theorem j_has : (vc (A := sem Tb) (cfgAt b59) 6 57 ⟨[.agg [(.int .i64, false), (.sl 3, false), (.sl 84, false)], .cell (.int .i64) false], [.cell (.bool) false]⟩).den = V_has := by kernel_rfl
theorem s_has (h : SigOk Tb (cfgAt b59)) (hv : V_has) : SigOk Tb (cfgAt b60) := SigOk.next (l := b59) h (f := 57) (sg := ⟨[.agg [(.int .i64, false), (.sl 3, false), (.sl 84, false)], .cell (.int .i64) false], [.cell (.bool) false]⟩) rfl j_has hv
theorem j_follow : (vc (A := sem Tb) (cfgAt b60) 6 41 ⟨[.agg [(.int .i64, false), (.sl 3, false), (.sl 84, false)], .cell (.sl 84) false, .cell (.int .i64) false], [.cell (.bool) false]⟩).den = V_follow := by kernel_rfl
theorem s_follow (h : SigOk Tb (cfgAt b60)) (hv : V_follow) : SigOk Tb (cfgAt b61) := SigOk.next (l := b60) h (f := 41) (sg := ⟨[.agg [(.int .i64, false), (.sl 3, false), (.sl 84, false)], .cell (.sl 84) false, .cell (.int .i64) false], [.cell (.bool) false]⟩) rfl j_follow hv
theorem j_Valid : (vc (A := sem Tb) (cfgAt b61) 6 15 ⟨[.agg [(.int .i64, false), (.sl 3, false), (.sl 84, false)]], [.cell (.bool) false]⟩).den = V_Valid := by kernel_rfl
theorem s_Valid (h : SigOk Tb (cfgAt b61)) (hv : V_Valid) : SigOk Tb (cfgAt b62) := SigOk.next (l := b61) h (f := 15) (sg := ⟨[.agg [(.int .i64, false), (.sl 3, false), (.sl 84, false)]], [.cell (.bool) false]⟩) rfl j_Valid hv
theorem j_posted : (vc (A := sem Tb) (cfgAt b62) 6 58 ⟨[.agg [(.int .i64, false), (.sl 3, false), (.sl 84, false)], .cell (.int .i64) false], [.cell (.int .i64) false]⟩).den = V_posted := by kernel_rfl
theorem s_posted (h : SigOk Tb (cfgAt b62)) (hv : V_posted) : SigOk Tb (cfgAt b63) := SigOk.next (l := b62) h (f := 58) (sg := ⟨[.agg [(.int .i64, false), (.sl 3, false), (.sl 84, false)], .cell (.int .i64) false], [.cell (.int .i64) false]⟩) rfl j_posted hv
theorem j_Open : (vc (A := sem Tb) (cfgAt b63) 6 32 ⟨[.agg [(.int .i64, false), (.sl 3, false), (.sl 84, false)], .cell (.int .i64) false], [.cell (.int .i64) false, .cell (.int .i64) false]⟩).den = V_Open := by kernel_rfl
theorem s_Open (h : SigOk Tb (cfgAt b63)) (hv : V_Open) : SigOk Tb (cfgAt b64) := SigOk.next (l := b63) h (f := 32) (sg := ⟨[.agg [(.int .i64, false), (.sl 3, false), (.sl 84, false)], .cell (.int .i64) false], [.cell (.int .i64) false, .cell (.int .i64) false]⟩) rfl j_Open hv
theorem j_Total : (vc (A := sem Tb) (cfgAt b64) 6 31 ⟨[.agg [(.int .i64, false), (.sl 3, false), (.sl 84, false)], .cell (.int .u8) false], [.cell (.int .i64) false, .cell (.int .i64) false]⟩).den = V_Total := by kernel_rfl
theorem s_Total (h : SigOk Tb (cfgAt b64)) (hv : V_Total) : SigOk Tb (cfgAt b65) := SigOk.next (l := b64) h (f := 31) (sg := ⟨[.agg [(.int .i64, false), (.sl 3, false), (.sl 84, false)], .cell (.int .u8) false], [.cell (.int .i64) false, .cell (.int .i64) false]⟩) rfl j_Total hv
theorem j_Same : (vc (A := sem Tb) (cfgAt b65) 6 25 ⟨[.agg [(.int .i64, false), (.sl 3, false), (.sl 84, false)], .agg [(.int .i64, false), (.sl 3, false), (.sl 84, false)]], [.cell (.bool) false]⟩).den = V_Same := by kernel_rfl
theorem s_Same (h : SigOk Tb (cfgAt b65)) (hv : V_Same) : SigOk Tb (cfgAt b66) := SigOk.next (l := b65) h (f := 25) (sg := ⟨[.agg [(.int .i64, false), (.sl 3, false), (.sl 84, false)], .agg [(.int .i64, false), (.sl 3, false), (.sl 84, false)]], [.cell (.bool) false]⟩) rfl j_Same hv
theorem j_Concat : (vc (A := sem Tb) (cfgAt b66) 6 92 ⟨[.cell (.sl 45) false], [.cell (.sl 84) true]⟩).den = V_Concat := by kernel_rfl
theorem s_Concat (h : SigOk Tb (cfgAt b66)) (hv : V_Concat) : SigOk Tb (cfgAt b67) := SigOk.next (l := b66) h (f := 92) (sg := ⟨[.cell (.sl 45) false], [.cell (.sl 84) true]⟩) rfl j_Concat hv
theorem j_Post : (vc (A := sem Tb) (cfgAt b67) 6 52 ⟨[.agg [(.int .i64, false), (.sl 3, false), (.sl 84, false)], .cell (.sl 84) false], [.agg [(.int .i64, false), (.sl 3, true), (.sl 84, true)], .cell (.int .i64) false]⟩).den = V_Post := by kernel_rfl
theorem s_Post (h : SigOk Tb (cfgAt b67)) (hv : V_Post) : SigOk Tb (cfgAt b68) := SigOk.next (l := b67) h (f := 52) (sg := ⟨[.agg [(.int .i64, false), (.sl 3, false), (.sl 84, false)], .cell (.sl 84) false], [.agg [(.int .i64, false), (.sl 3, true), (.sl 84, true)], .cell (.int .i64) false]⟩) rfl j_Post hv
end Go.Sx.N
