/-
  The condition of TaxTells. Conditions: none.
-/
import Derived.Test.YtedajccdbdlaoaaGreatNumVTells
import Derived.Test.YtedajccdbdlaoaaGreatTaxFc
set_option linter.unusedVariables false
set_option linter.unusedSimpArgs false
namespace Go.Sx.N

theorem Tells_ok : V_Tells := by
  intro l _ m _ A _ _
  simp only [Bool.decide_eq_true]
  exact ⟨trivial, fun v hv => ⟨fun _ => ⟨trivial, fun b hb => ⟨hb, trivial⟩⟩, fun h => ⟨hv.1 (Classical.not_not.1 h), fun b hb => ⟨fun _ => ⟨trivial, fun c hc => ⟨hc, trivial⟩⟩, fun k => absurd hb k⟩⟩⟩⟩

end Go.Sx.N
