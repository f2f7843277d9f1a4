/-
 Viewing a table agrees with its reference, and neither changes nor keeps what it is given. Conditions: none.
-/
import Derived.Test.YtmehepdbfdnbjaaGreatViwG
import Derived.Test.YtmehepdbfdnbjaaGreatViwY
import Derived.Test.YtmehepdbfdnbjaaGreatNumVTViews
set_option linter.unusedVariables false
set_option linter.unusedSimpArgs false
namespace Go.Sx.N
theorem TViews_ok : V_TViews := by
 intro n two s _ k _ hp
 simp only [Bool.decide_eq_true]
 exact ⟨hp.1, fun f _ => ⟨fun _ => ⟨trivial, fun r hr => ⟨hr, trivial⟩⟩, fun _ => ⟨hp, fun r hr => ⟨fun _ => ⟨trivial, fun u hu => ⟨hu, trivial⟩⟩, fun h => absurd hr h⟩⟩⟩⟩
end Go.Sx.N
