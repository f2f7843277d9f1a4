/-
 Conditions of three functions that not every seat has. Conditions: none.
-/
import Derived.Test.YtfhjplagjjjlpaaGreatTaxFc
set_option linter.unusedVariables false
set_option linter.unusedSimpArgs false
namespace Go.Sx.N
theorem ownFrac_ok : V_ownFrac := by
 intro a b _ c d _ hp
 simp only [Bool.decide_eq_true]
 obtain ⟨h1, h2⟩ := hp
 unfold Lim at h1 h2
 rw [len_nil]
 exact ⟨by omega, by omega, ⟨⟨rfl, sameI_app rfl⟩, rfl, sameI_app rfl⟩, trivial⟩
end Go.Sx.N
