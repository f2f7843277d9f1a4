/-
  The conditions are what the executor says. Conditions: none; printed by a program of our own.
-/
import Derived.Test.YtedajccdbdlaoaaGreatNumT
import Derived.Test.YtedajccdbdlaoaaGreatNumVK
import Derived.KernelRfl
namespace Go.Sx.N
open Go.Proofs
theorem j_kSameLimbs : (vc (A := sem Tb) (cfgAt b84) 6 104 ⟨[.cell (.sl 45) false, .cell (.sl 45) false], [.cell (.bool) false]⟩).den = V_kSameLimbs := by kernel_rfl
theorem s_kSameLimbs (h : SigOk Tb (cfgAt b84)) (hv : V_kSameLimbs) : SigOk Tb (cfgAt b85) := SigOk.next (l := b84) h (f := 104) (sg := ⟨[.cell (.sl 45) false, .cell (.sl 45) false], [.cell (.bool) false]⟩) rfl j_kSameLimbs hv
theorem j_kSameWhole : (vc (A := sem Tb) (cfgAt b85) 6 71 ⟨[.agg [(.bool, false), (.sl 45, false)], .agg [(.bool, false), (.sl 45, false)]], [.cell (.bool) false]⟩).den = V_kSameWhole := by kernel_rfl
theorem s_kSameWhole (h : SigOk Tb (cfgAt b85)) (hv : V_kSameWhole) : SigOk Tb (cfgAt b86) := SigOk.next (l := b85) h (f := 71) (sg := ⟨[.agg [(.bool, false), (.sl 45, false)], .agg [(.bool, false), (.sl 45, false)]], [.cell (.bool) false]⟩) rfl j_kSameWhole hv
theorem j_kSameFrac : (vc (A := sem Tb) (cfgAt b86) 6 39 ⟨[.agg [(.bool, false), (.sl 45, false), (.bool, false), (.sl 45, false)], .agg [(.bool, false), (.sl 45, false), (.bool, false), (.sl 45, false)]], [.cell (.bool) false]⟩).den = V_kSameFrac := by kernel_rfl
theorem s_kSameFrac (h : SigOk Tb (cfgAt b86)) (hv : V_kSameFrac) : SigOk Tb (cfgAt b87) := SigOk.next (l := b86) h (f := 39) (sg := ⟨[.agg [(.bool, false), (.sl 45, false), (.bool, false), (.sl 45, false)], .agg [(.bool, false), (.sl 45, false), (.bool, false), (.sl 45, false)]], [.cell (.bool) false]⟩) rfl j_kSameFrac hv
theorem j_kCopyLimbs : (vc (A := sem Tb) (cfgAt b87) 6 102 ⟨[.cell (.sl 45) false], [.cell (.sl 45) false]⟩).den = V_kCopyLimbs := by kernel_rfl
theorem s_kCopyLimbs (h : SigOk Tb (cfgAt b87)) (hv : V_kCopyLimbs) : SigOk Tb (cfgAt b88) := SigOk.next (l := b87) h (f := 102) (sg := ⟨[.cell (.sl 45) false], [.cell (.sl 45) false]⟩) rfl j_kCopyLimbs hv
theorem j_kCopyWhole : (vc (A := sem Tb) (cfgAt b88) 6 68 ⟨[.agg [(.bool, false), (.sl 45, false)]], [.agg [(.bool, false), (.sl 45, false)]]⟩).den = V_kCopyWhole := by kernel_rfl
theorem s_kCopyWhole (h : SigOk Tb (cfgAt b88)) (hv : V_kCopyWhole) : SigOk Tb (cfgAt b89) := SigOk.next (l := b88) h (f := 68) (sg := ⟨[.agg [(.bool, false), (.sl 45, false)]], [.agg [(.bool, false), (.sl 45, false)]]⟩) rfl j_kCopyWhole hv
theorem j_kCopyFrac : (vc (A := sem Tb) (cfgAt b89) 6 33 ⟨[.agg [(.bool, false), (.sl 45, false), (.bool, false), (.sl 45, false)]], [.agg [(.bool, false), (.sl 45, false), (.bool, false), (.sl 45, false)]]⟩).den = V_kCopyFrac := by kernel_rfl
theorem s_kCopyFrac (h : SigOk Tb (cfgAt b89)) (hv : V_kCopyFrac) : SigOk Tb (cfgAt b90) := SigOk.next (l := b89) h (f := 33) (sg := ⟨[.agg [(.bool, false), (.sl 45, false), (.bool, false), (.sl 45, false)]], [.agg [(.bool, false), (.sl 45, false), (.bool, false), (.sl 45, false)]]⟩) rfl j_kCopyFrac hv
theorem j_kPick : (vc (A := sem Tb) (cfgAt b90) 6 22 ⟨[.cell (.int .i64) false, .cell (.int .i64) false], [.cell (.int .i64) false]⟩).den = V_kPick := by kernel_rfl
theorem s_kPick (h : SigOk Tb (cfgAt b90)) (hv : V_kPick) : SigOk Tb (cfgAt b91) := SigOk.next (l := b90) h (f := 22) (sg := ⟨[.cell (.int .i64) false, .cell (.int .i64) false], [.cell (.int .i64) false]⟩) rfl j_kPick hv
end Go.Sx.N
