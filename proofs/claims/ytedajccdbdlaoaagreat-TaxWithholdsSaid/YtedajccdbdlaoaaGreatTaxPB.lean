/-
  The condition of TaxWithholds. Conditions: none.
-/
import Derived.Test.YtedajccdbdlaoaaGreatNumVWithholds
import Derived.Test.YtedajccdbdlaoaaGreatTaxFc
set_option linter.unusedVariables false
set_option linter.unusedSimpArgs false
namespace Go.Sx.N

theorem Withholds_ok : V_Withholds := by
  intro y _ mo _ g _ t _ pays _ _
  simp only [Bool.decide_eq_true]
  refine ⟨trivial, fun z _ b hb => ⟨fun _ => ⟨trivial, fun c hc => ⟨hc, trivial⟩⟩, fun h _ => ⟨fun _ => ⟨trivial, fun c hc => ⟨hc, trivial⟩⟩, fun h60 => ⟨⟨hb (Classical.not_not.1 h), by omega⟩, fun c hc => ⟨fun _ => ⟨trivial, fun d hd => ⟨hd, trivial⟩⟩, fun k => absurd hc k⟩⟩⟩⟩⟩

end Go.Sx.N
