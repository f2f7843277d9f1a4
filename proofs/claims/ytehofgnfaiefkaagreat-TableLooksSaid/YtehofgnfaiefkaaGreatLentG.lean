/-
  Lending a table. Conditions: as typed.
-/
import Derived.Test.YtehofgnfaiefkaaGreatLentF
set_option linter.unusedVariables false
set_option linter.unusedSimpArgs false
namespace Go.Sx.Lent
open Go Go.Proofs Go.RowKit Go.Lib Go.Sx

theorem ReadR.below {w w' : World} {v : Value} {rows : List R7} (h : ReadR w v rows) (hb : Below w.heap.size w w') : ReadR w' v rows := by
  obtain ⟨ao, n, c, e1, e2, e3, e4⟩ := h
  exact ⟨ao, n, c, e1, e2, e3, e4.below hb⟩

set_option maxHeartbeats 4000000 in
set_option maxRecDepth 100000 in
theorem lentTable {w : World} {y : ByteArray} {two : Bool} {v : Value} {rows : List R7} (h : ReadR w v rows) (h2 : v.oneCell' = true) :
    Calls Tryz.prog 10 #[.agg #[.string y, .bool two, v]] w fun e w' => ∃ (b : Nat) (cs : Array Value) (L : List Value), e = .returned (.agg #[.string y, .bool two, .slice (some ⟨b, 0, none⟩) rows.length (rows.length + 12)]) ∧ Below w.heap.size w w' ∧ News w w' b ∧
      w'.heap[b]? = some (.cells cs 34 (0, 0)) ∧ cs.toList = L ++ marksR 12 ∧ LRows w' (News w w') L rows := by
  obtain ⟨hb0, hs0, ha0, hr0⟩ := two_new w #[.string y, .bool two, v] #[.string ⟨#[]⟩, .bool false, .slice none 0 0] 24 24
  go_enter Tryz.func10, Tryz.ntmps10
  go_wp2_with fail
  refine (lentRows (h.below hb0)).mono ?_
  rintro e w2 ⟨rfl, hb1, cs, L, hc1, ht1, hL⟩
  have l1 := (Array.getElem?_eq_some_iff.1 hc1).1
  have ha2 := (hb1.block _ (by omega)).trans ha0
  have hr2 := (hb1.block _ (by omega)).trans hr0
  have hs1 := hb1.size
  rw [hs0] at hs1 hc1 hL l1
  simp only [hs0] at *
  have hB2 := hb0.trans (hb1.mono (by omega))
  have c0 := cell_of ha2 (i := 0)
  have c1 := cell_of ha2 (i := 1)
  have c2 := cell_of ha2 (i := 2)
  have r0 := cell_of hr2 (i := 0)
  have r1 := cell_of hr2 (i := 1)
  have r2 := cell_of hr2 (i := 2)
  simp at c0 c1 c2 r0 r1 r2
  have f0 : ∀ j, w2.frozen? ⟨w.heap.size, j, none⟩ = false := fun j => froz_of ha2
  have f1 : ∀ j, w2.frozen? ⟨w.heap.size + 1, j, none⟩ = false := fun j => froz_of hr2
  go_wp2
  have keep : ∀ b, w.heap.size + 2 ≤ b → ((((w2.setCell ⟨w.heap.size, 2, none⟩ (.slice (some ⟨w.heap.size + 2, 0, none⟩) rows.length (rows.length + 12))).setCell ⟨w.heap.size + 1, 0, none⟩ (.string y)).setCell ⟨w.heap.size + 1, 1, none⟩ (.bool two)).setCell ⟨w.heap.size + 1, 2, none⟩ (.slice (some ⟨w.heap.size + 2, 0, none⟩) rows.length (rows.length + 12))).heap[b]? = w2.heap[b]? := fun b hb => by
    rw [heap_setCell_ne _ (by simp; omega), heap_setCell_ne _ (by simp; omega), heap_setCell_ne _ (by simp; omega), heap_setCell_ne _ (by simp; omega)]
  have lk : ∀ {u : Value} {zs : List Value}, LentL w2 (fun b => w.heap.size + 2 < b ∧ b < w2.heap.size) u zs → LentL ((((w2.setCell ⟨w.heap.size, 2, none⟩ (.slice (some ⟨w.heap.size + 2, 0, none⟩) rows.length (rows.length + 12))).setCell ⟨w.heap.size + 1, 0, none⟩ (.string y)).setCell ⟨w.heap.size + 1, 1, none⟩ (.bool two)).setCell ⟨w.heap.size + 1, 2, none⟩ (.slice (some ⟨w.heap.size + 2, 0, none⟩) rows.length (rows.length + 12))) (News w ((((w2.setCell ⟨w.heap.size, 2, none⟩ (.slice (some ⟨w.heap.size + 2, 0, none⟩) rows.length (rows.length + 12))).setCell ⟨w.heap.size + 1, 0, none⟩ (.string y)).setCell ⟨w.heap.size + 1, 1, none⟩ (.bool two)).setCell ⟨w.heap.size + 1, 2, none⟩ (.slice (some ⟨w.heap.size + 2, 0, none⟩) rows.length (rows.length + 12)))) u zs := fun {u zs} hl => by
    obtain ⟨b, cs, e1, e2, e3, e4⟩ := hl
    exact ⟨b, cs, e1, ⟨by omega, by simp; omega⟩, (keep b (by omega)).trans e3, e4⟩
  refine bodyPost_ret (v := .agg #[.string y, .bool two, .slice (some ⟨w.heap.size + 2, 0, none⟩) rows.length (rows.length + 12)]) (by simp [results, Tryz.results10, go_sem, r0, r1, r2]) rfl
    ⟨w.heap.size + 2, cs, L, rfl, ?_, ⟨by omega, by simp; omega⟩, (keep _ (Nat.le_refl _)).trans hc1, ht1, hL.1, fun i r hr => ?_⟩
  · exact (((hB2.setCell (Nat.le_refl _) _).setCell (by simp) _).setCell (by simp) _).setCell (by simp) _
  · obtain ⟨u1, u2, c0, c1, c2, c3, c4, c5, c6, g1, g2⟩ := hL.2 i r hr
    exact ⟨u1, u2, c0, c1, c2, c3, c4, c5, c6, lk g1, lk g2⟩

end Go.Sx.Lent
