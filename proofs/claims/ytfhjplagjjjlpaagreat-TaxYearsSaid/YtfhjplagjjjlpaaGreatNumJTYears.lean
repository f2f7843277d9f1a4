/-
 The conditions are what the executor says. Conditions: none; printed by a program of our own.
-/
import Derived.Test.YtfhjplagjjjlpaaGreatNumT
import Derived.Test.YtfhjplagjjjlpaaGreatNumVTYears
import Derived.KernelRfl
import Derived.Test.YtfhjplagjjjlpaaGreatTaxPK
namespace Go.Sx.N
open Go.Proofs
theorem j_TYears : VCP b98 6 3 = V_TYears := by kernel_rfl
theorem pc_TYears (h : OKA b98) : PiecesOk Tb (cfgP b98 3) := fun g fn body i c q h1 h2 h3 h4 => by
 obtain ⟨e0, h5⟩ := lpOne h4
 clear h4
 subst e0
 have h1 := Tryz.func3.symm.trans h1
 cases h1
 cases h2
 unfold lpt at h5
 split at h5
 all_goals first
  | (cases h5; exact @Go.Sx.Over.yearsLoop _ h _ h3)
  | cases h5
  | contradiction
theorem l_TYears (h : OKA b98) (hv : V_TYears) : ConOK Tryz.prog 3 ⟨[.cell (.sl 44) false, .cell (.int .i64) false], [.cell (.bool) false]⟩ (Tb 3) := lwP h (pc_TYears h) j_TYears hv
end Go.Sx.N
