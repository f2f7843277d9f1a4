/-
 Learning a row agrees with its reference, and neither changes nor keeps what it is given. Conditions: none.
-/
import Derived.Test.YtmehepdbfdnbjaaGreatLrnC
import Derived.Test.YtmehepdbfdnbjaaGreatLrnY
import Derived.Test.YtmehepdbfdnbjaaGreatNumVTLearns
import Derived.Test.YtmehepdbfdnbjaaGreatNumT
set_option linter.unusedVariables false
set_option linter.unusedSimpArgs false
namespace Go.Sx.N
open Go Go.Proofs
theorem TLearns_ok : V_TLearns := by
 intro n two s _ a _ b _ k _ nn nl _ dn dl _ hp
 simp only [Bool.decide_eq_true]
 refine ⟨hp.1.1, fun f _ => ⟨fun _ => ⟨trivial, fun r hr => ⟨hr, trivial⟩⟩, fun _ => ⟨trivial, fun x _ _ => ⟨fun _ => ⟨trivial, fun r hr => ⟨hr, trivial⟩⟩, fun _ => ⟨hp, fun r hr => ⟨fun _ => ⟨trivial, fun u hu => ⟨hu, trivial⟩⟩, fun h => absurd hr h⟩⟩⟩⟩⟩⟩
end Go.Sx.N
