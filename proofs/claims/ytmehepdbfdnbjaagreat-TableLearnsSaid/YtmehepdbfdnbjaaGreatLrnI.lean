/-
 Rows put in. Conditions: none.
-/
import Derived.Test.YtmehepdbfdnbjaaGreatMemT
set_option linter.unusedVariables false
set_option linter.unusedSimpArgs false
namespace Go.Sx.N
theorem ltR_congr {s t u v : Sl} {i k j l : Int} (h : rowEq s i t k) (g : rowEq u j v l) : ltR s i u j ↔ ltR t k v l := by
 unfold ltR
 rw [h.1, h.2.1, h.2.2.1, g.1, g.2.1, g.2.2.1]
theorem rowEq_lit {a s : Sl} {l : List D} {m : Int} (h : m = a.len) : rowEq (Sl.app a (Sl.lit [l])) m (Sl.lit [l]) 0 := by
 refine rowEq_cells ?_
 rw [app_new h]
 rfl
theorem rightAt_congr {two : Bool} {s t : Sl} {i k : Int} (h : rowEq s i t k) (g : rightAt two t k) : rightAt two s i := by
 unfold rightAt rightS at *
 rw [h.1, h.2.1, h.2.2.1]
 exact ⟨g.1, g.2.1, g.2.2.1, g.2.2.2.1, okF.of_same g.2.2.2.2 h.2.2.2⟩
theorem ins_det {u r t u' r' t' : Sl} (h : ins u r t) (g : ins u' r' t') (e : rowsEq u u') (er : rowEq r 0 r' 0) : rowsEq t t' := by
 obtain ⟨p, ⟨hl, hp, h1, h2, h3⟩, h4⟩ := h
 obtain ⟨q, ⟨gl, gq, g1, g2, g3⟩, g4⟩ := g
 have el := e.1
 have lt : ∀ k, 0 <= k -> k < u.len -> (ltR r 0 u k ↔ ltR r' 0 u' k) := fun k k0 k1 => ltR_congr er (e.2 k k0 k1)
 have pq : p = q := by
  rcases Int.lt_trichotomy p q with c | c | c
  ·exact absurd ((lt p hp.1 (by omega)).1 (h3 p (by omega) (by omega)).2) (g4 p hp.1 c)
  ·exact c
  ·exact absurd ((lt q gq.1 (by omega)).2 (g3 q (by omega) (by omega)).2) (h4 q gq.1 c)
 subst pq
 refine ⟨by omega, fun i i0 i1 => ?_⟩
 rcases Int.lt_trichotomy i p with c | c | c
 ·exact rowEq.trans (h1 i i0 c) (rowEq.trans (e.2 i i0 (by omega)) (rowEq.symm (g1 i i0 c)))
 ·subst c; exact rowEq.trans h2 (rowEq.trans er (rowEq.symm g2))
 ·have a := (h3 (i - 1) (by omega) (by omega)).1
  have b := (g3 (i - 1) (by omega) (by omega)).1
  rw [show i - 1 + 1 = i by omega] at a b
  exact a.trans ((e.2 (i - 1) (by omega) (by omega)).trans b.symm)
end Go.Sx.N
