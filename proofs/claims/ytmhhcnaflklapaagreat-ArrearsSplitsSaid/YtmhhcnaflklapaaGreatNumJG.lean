/-
  The conditions are what the executor says. Conditions: none; printed by a program of our own.
-/
import Derived.Test.YtmhhcnaflklapaaGreatNumT
import Derived.Test.YtmhhcnaflklapaaGreatNumVG
import Derived.KernelRfl
namespace Go.Sx.N
open Go.Proofs
theorem j_has : (vc (A := sem Tb) (cfgAt b59) 6 57 ⟨[.agg [(.int .i64, false), (.sl 3, false), (.sl 84, false)], .cell (.int .i64) false], [.cell (.bool) false]⟩).den = V_has := by kernel_rfl
theorem s_has (h : SigOk Tb (cfgAt b59)) (hv : V_has) : SigOk Tb (cfgAt b60) := SigOk.next (l := b59) h (f := 57) (sg := ⟨[.agg [(.int .i64, false), (.sl 3, false), (.sl 84, false)], .cell (.int .i64) false], [.cell (.bool) false]⟩) rfl j_has hv
theorem j_follow : (vc (A := sem Tb) (cfgAt b60) 6 41 ⟨[.agg [(.int .i64, false), (.sl 3, false), (.sl 84, false)], .cell (.sl 84) false, .cell (.int .i64) false], [.cell (.bool) false]⟩).den = V_follow := by kernel_rfl
theorem s_follow (h : SigOk Tb (cfgAt b60)) (hv : V_follow) : SigOk Tb (cfgAt b61) := SigOk.next (l := b60) h (f := 41) (sg := ⟨[.agg [(.int .i64, false), (.sl 3, false), (.sl 84, false)], .cell (.sl 84) false, .cell (.int .i64) false], [.cell (.bool) false]⟩) rfl j_follow hv
theorem j_Valid : (vc (A := sem Tb) (cfgAt b61) 6 15 ⟨[.agg [(.int .i64, false), (.sl 3, false), (.sl 84, false)]], [.cell (.bool) false]⟩).den = V_Valid := by kernel_rfl
theorem s_Valid (h : SigOk Tb (cfgAt b61)) (hv : V_Valid) : SigOk Tb (cfgAt b62) := SigOk.next (l := b61) h (f := 15) (sg := ⟨[.agg [(.int .i64, false), (.sl 3, false), (.sl 84, false)]], [.cell (.bool) false]⟩) rfl j_Valid hv
end Go.Sx.N
