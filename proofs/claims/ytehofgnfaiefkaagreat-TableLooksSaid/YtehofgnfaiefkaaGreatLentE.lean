/-
  Lending rows. Conditions: as typed.
-/
import Derived.Test.YtehofgnfaiefkaaGreatLentD
set_option linter.unusedVariables false
set_option linter.unusedSimpArgs false
namespace Go.Sx.Lent
open Go Go.Proofs Go.RowKit Go.Lib Go.Sx

set_option maxHeartbeats 4000000 in
set_option maxRecDepth 100000 in
theorem lentRow {w : World} {a b k : Int} {s1 s2 : Bool} {v1 v2 : Value} {xs ys : List Value} (h : ReadL w v1 xs) (g : ReadL w v2 ys) (h2 : v1.oneCell' = true) (k2 : v2.oneCell' = true) :
    Calls Tryz.prog 20 #[.agg #[.int .i64 a, .int .i64 b, .int .i64 k, .bool s1, v1, .bool s2, v2]] w fun e w' => ∃ u1 u2, e = .returned (.agg #[.int .i64 a, .int .i64 b, .int .i64 k, .bool s1, u1, .bool s2, u2]) ∧ Below w.heap.size w w' ∧ LentL w' (News w w') u1 xs ∧ LentL w' (News w w') u2 ys := by
  obtain ⟨hb0, hs0, ha0, hr0⟩ := two_new w #[.int .i64 a, .int .i64 b, .int .i64 k, .bool s1, v1, .bool s2, v2] #[.int .i64 0, .int .i64 0, .int .i64 0, .bool false, .slice none 0 0, .bool false, .slice none 0 0] 34 34
  go_enter Tryz.func20, Tryz.ntmps20
  go_wp2_with fail
  refine (lentFrac (h.below hb0) (g.below hb0) h2 k2).mono ?_
  rintro e w2 ⟨u1, u2, rfl, hb1, hl1, hl2⟩
  obtain ⟨b1, cs1, rfl, hz1, hc1, ht1⟩ := hl1
  obtain ⟨b2, cs2, rfl, hz2, hc2, ht2⟩ := hl2
  have n1 := hz1.lo
  have n2 := hz2.lo
  have l1 := (Array.getElem?_eq_some_iff.1 hc1).1
  have l2 := (Array.getElem?_eq_some_iff.1 hc2).1
  have ha2 := (hb1.block _ (by omega)).trans ha0
  have hr2 := (hb1.block _ (by omega)).trans hr0
  have hs1 := hb1.size
  rw [hs0] at n1 n2 hs1
  have hB2 := hb0.trans (hb1.mono (by omega))
  have c0 := cell_of ha2 (i := 0)
  have c1 := cell_of ha2 (i := 1)
  have c2 := cell_of ha2 (i := 2)
  have c3 := cell_of ha2 (i := 3)
  have c4 := cell_of ha2 (i := 4)
  have c5 := cell_of ha2 (i := 5)
  have c6 := cell_of ha2 (i := 6)
  have r0 := cell_of hr2 (i := 0)
  have r1 := cell_of hr2 (i := 1)
  have r2 := cell_of hr2 (i := 2)
  have r3 := cell_of hr2 (i := 3)
  have r4 := cell_of hr2 (i := 4)
  have r5 := cell_of hr2 (i := 5)
  have r6 := cell_of hr2 (i := 6)
  simp at c0 c1 c2 c3 c4 c5 c6 r0 r1 r2 r3 r4 r5 r6
  have f0 : ∀ j, w2.frozen? ⟨w.heap.size, j, none⟩ = false := fun j => froz_of ha2
  have f1 : ∀ j, w2.frozen? ⟨w.heap.size + 1, j, none⟩ = false := fun j => froz_of hr2
  go_wp2
  have p0 : ∀ b, w.heap.size + 2 ≤ b → b ≠ w.heap.size ∧ b ≠ w.heap.size + 1 := fun b hb => by omega
  have e1 := p0 b1 (by omega)
  have e2 := p0 b2 (by omega)
  refine bodyPost_ret (v := .agg #[.int .i64 a, .int .i64 b, .int .i64 k, .bool s1, .slice (some ⟨b1, 0, none⟩) xs.length (xs.length + 12), .bool s2, .slice (some ⟨b2, 0, none⟩) ys.length (ys.length + 12)]) (by simp [results, Tryz.results20, go_sem, r0, r1, r2, r3, r4, r5, r6]) rfl
    ⟨_, _, rfl, ?_, ⟨b1, cs1, rfl, ⟨by omega, by simp; omega⟩, ?_, ht1⟩, ⟨b2, cs2, rfl, ⟨by omega, by simp; omega⟩, ?_, ht2⟩⟩
  · exact ((((((((((hB2.setCell (Nat.le_refl _) _).setCell (Nat.le_refl _) _).setCell (Nat.le_refl _) _).setCell (Nat.le_refl _) _).setCell (by simp) _).setCell (by simp) _).setCell (by simp) _).setCell (by simp) _).setCell (by simp) _).setCell (by simp) _).setCell (by simp) _
  · rw [heap_setCell_ne _ e1.2, heap_setCell_ne _ e1.2, heap_setCell_ne _ e1.2, heap_setCell_ne _ e1.2, heap_setCell_ne _ e1.2, heap_setCell_ne _ e1.2, heap_setCell_ne _ e1.2, heap_setCell_ne _ e1.1, heap_setCell_ne _ e1.1, heap_setCell_ne _ e1.1, heap_setCell_ne _ e1.1]
    exact hc1
  · rw [heap_setCell_ne _ e2.2, heap_setCell_ne _ e2.2, heap_setCell_ne _ e2.2, heap_setCell_ne _ e2.2, heap_setCell_ne _ e2.2, heap_setCell_ne _ e2.2, heap_setCell_ne _ e2.2, heap_setCell_ne _ e2.1, heap_setCell_ne _ e2.1, heap_setCell_ne _ e2.1, heap_setCell_ne _ e2.1]
    exact hc2

end Go.Sx.Lent
