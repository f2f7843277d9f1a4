/-
 Growth agrees with its reference, and neither changes nor keeps its arguments. Conditions: none.
-/
import Derived.Test.YtofhdobfddolnaaGreatDoorGroR
import Derived.Test.YtofhdobfddolnaaGreatDoorGroY
import Derived.Test.YtofhdobfddolnaaGreatDoorNumVWGrows
set_option linter.unusedVariables false
set_option linter.unusedSimpArgs false
namespace Go.Sx.N
theorem WGrows_ok : V_WGrows := by
 intro vn vl _ vd vk _ name two s _ a _ b _ known _ hp
 simp only [Bool.decide_eq_true]
 refine ⟨hp.1.1, fun f _ => ⟨fun _ => ⟨trivial, fun r hr => ⟨hr, trivial⟩⟩, fun _ => ⟨trivial, fun n _ _ => ⟨fun _ => ⟨trivial, fun r hr => ⟨hr, trivial⟩⟩, fun _ => ⟨hp, fun r hr => ⟨fun _ => ⟨trivial, fun u hu => ⟨hu, trivial⟩⟩, fun h => absurd hr h⟩⟩⟩⟩⟩⟩
end Go.Sx.N
