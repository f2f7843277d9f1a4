/-
  Looking at a table agrees with its reference, and neither changes nor keeps it. Conditions: none.
-/
import Derived.Test.YtehofgnfaiefkaaGreatMemT
import Derived.Test.YtehofgnfaiefkaaGreatMemY
import Derived.Test.YtehofgnfaiefkaaGreatNumVTLooks
import Derived.Test.YtehofgnfaiefkaaGreatNumT
set_option linter.unusedVariables false
set_option linter.unusedSimpArgs false
namespace Go.Sx.N
open Go Go.Proofs

theorem TLooks_ok : V_TLooks := by
  intro n two s _ a _ b _ known _ hp
  simp only [Bool.decide_eq_true]
  refine ⟨hp.1, fun f _ => ⟨fun _ => ⟨trivial, fun r hr => ⟨hr, trivial⟩⟩, fun _ => ⟨hp, fun r hr => ⟨fun _ => ⟨trivial, fun u hu => ⟨hu, trivial⟩⟩, fun h => absurd hr h⟩⟩⟩⟩

end Go.Sx.N
