/-
 Lending, comparing and overwriting rows: the contracts of the chain. Conditions: none.
-/
import Derived.Test.YtmehepdbfdnbjaaGreatLentA
import Derived.Test.YtmehepdbfdnbjaaGreatMemZ
set_option linter.unusedVariables false
set_option linter.unusedSimpArgs false
namespace Go.Sx.Lent
open Go Go.Proofs Go.RowKit Go.Lib Go.Sx Go.Sx.N
theorem kLentRow_h : ConOK Tryz.prog 29 sgLR (Tb 29) :=
 lentRow_con (fun a b k s1 m1 g1 s2 m2 g2 h => have h : roomL ⟨m1, g1⟩ ⟨m2, g2⟩ := h; h) (fun a b k s1 m1 g1 s2 m2 g2 => show q_kLentRow a b k s1 ⟨m1, g1⟩ s2 ⟨m2, g2⟩ a b k s1 ⟨m1, g1⟩ s2 ⟨m2, g2⟩ from ⟨⟨rfl, rfl, rfl⟩, rfl, rfl, rfl, rfl⟩)
theorem kKeptRow_h {l : List Nat} (h : OKA l) (hl : ([48, 21, 64, 27].all l.contains) = true) : KeptOK Tryz.prog 34 sgKR (Tb 34) :=
 keptRow_ok (sames h hl) (fun a b k s1 m1 g1 s2 m2 g2 a' b' k' s1' m1' g1' s2' m2' g2' h => by
  obtain ⟨⟨e, rfl, e1, rfl, e2⟩, hb⟩ := (show p_kKeptRow a b k s1 ⟨m1, g1⟩ s2 ⟨m2, g2⟩ a' b' k' s1' ⟨m1', g1'⟩ s2' ⟨m2', g2'⟩ from h)
  cases e1
  cases e2
  exact ⟨e, rfl, rfl, rfl, rfl, rfl, rfl, hb.1, hb.2⟩) (fun a b k s1 m1 g1 s2 m2 g2 => show q_kKeptRow a b k s1 ⟨m1, g1⟩ s2 ⟨m2, g2⟩ a b k s1 ⟨m1, g1⟩ s2 ⟨m2, g2⟩ true from rfl)
end Go.Sx.Lent
