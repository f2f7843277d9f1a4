/-
  The condition of IndexYears. Conditions: none.
-/
import Derived.Test.YtjljnieafhdkgaaGreatDoorNumVWYears
import Derived.Test.YtjljnieafhdkgaaGreatDoorIdxFd
set_option linter.unusedVariables false
namespace Go.Sx.N
theorem WYears_ok : V_WYears := by
  intro a _ b _ _
  simp only [Bool.decide_eq_true]
  exact ⟨trivial, fun r hr => ⟨fun _ => ⟨trivial, fun t ht => ⟨ht, trivial⟩⟩, fun h => absurd hr h⟩⟩
end Go.Sx.N
