/-
  Lending fractions and rows. Conditions: as typed.
-/
import Derived.Test.YtehofgnfaiefkaaGreatLentC
set_option linter.unusedVariables false
set_option linter.unusedSimpArgs false
namespace Go.Sx.Lent
open Go Go.Proofs Go.RowKit Go.Lib Go.Sx

/-- Limbs that are read. -/
def ReadL (w : World) (v : Value) (xs : List Value) : Prop :=
  ∃ (ao : Option Addr) (n c : Nat), v = .slice ao n c ∧ xs.length = n ∧ (ao = none → n = 0 ∧ c = 0) ∧ (∀ ad, ao = some ad → ∀ (j : Nat) u, xs[j]? = some u → w.cell? (ad.add j) = some u) ∧ (∀ u ∈ xs, u.oneCell' = true) ∧ 2 * (n + 12) ≤ 140737488355328

/-- Limbs that are lent. -/
def LentL (w : World) (Z : Nat → Prop) (v : Value) (xs : List Value) : Prop :=
  ∃ (b : Nat) (cs : Array Value), v = .slice (some ⟨b, 0, none⟩) xs.length (xs.length + 12) ∧ Z b ∧ w.heap[b]? = some (.cells cs 78 (0, 0)) ∧ cs.toList = xs ++ marksL 12

/-- The blocks that are new. -/
def News (w w' : World) : Nat → Prop := fun b => w.heap.size ≤ b ∧ b < w'.heap.size

theorem ReadL.below {w w' : World} {v : Value} {xs : List Value} (h : ReadL w v xs) (hb : Below w.heap.size w w') : ReadL w' v xs := by
  obtain ⟨ao, n, c, e1, e2, e3, e4, e5, e6⟩ := h
  refine ⟨ao, n, c, e1, e2, e3, fun ad ha j u hu => ?_, e5, e6⟩
  have q := e4 ad ha j u hu
  exact (hb.cell (cell_lt q)).trans q
theorem LentL.below {w w' : World} {Z Z' : Nat → Prop} {v : Value} {xs : List Value} (h : LentL w Z v xs) (hb : Below w.heap.size w w') (hz : ∀ b, Z b → Z' b) : LentL w' Z' v xs := by
  obtain ⟨b, cs, e1, e2, e3, e4⟩ := h
  exact ⟨b, cs, e1, hz b e2, (hb.block b (Array.getElem?_eq_some_iff.1 e3).1).trans e3, e4⟩
theorem LentL.one {w : World} {Z : Nat → Prop} {v : Value} {xs : List Value} (h : LentL w Z v xs) : v.oneCell' = true := by
  obtain ⟨b, cs, e1, _⟩ := h
  subst e1
  rfl

theorem lentLimbsV {w : World} {v : Value} {xs : List Value} (h : ReadL w v xs) : Calls Tryz.prog 80 #[v] w fun e w' => ∃ v', e = .returned v' ∧ Below w.heap.size w w' ∧ LentL w' (News w w') v' xs := by
  obtain ⟨ao, n, c, rfl, e2, e3, e4, e5, e6⟩ := h
  refine (lentLimbs w ao n c xs e2 e6 e5 e3 e4).mono ?_
  rintro e w' ⟨rfl, hb, cs, h1, h2, h3⟩
  exact ⟨_, rfl, hb, w.heap.size, cs, by rw [e2], ⟨Nat.le_refl _, (Array.getElem?_eq_some_iff.1 h1).1⟩, h1, h3⟩

theorem heap_setCell_ne (w : World) {a : Addr} {v : Value} {b : Nat} (h : b ≠ a.block) : (w.setCell a v).heap[b]? = w.heap[b]? := by
  unfold World.setCell
  simp [Array.getElem?_modify, Ne.symm h]

theorem Below.al {B : Nat} (w : World) (o : Obj) (h : B ≤ w.heap.size) : Below B w (w.alloc o) := (Below.refl _ _).alloc h o

set_option maxHeartbeats 2000000 in
set_option maxRecDepth 100000 in
theorem lentWhole {w : World} {s : Bool} {v : Value} {xs : List Value} (h : ReadL w v xs) (h2 : v.oneCell' = true) :
    Calls Tryz.prog 66 #[.agg #[.bool s, v]] w fun e w' => ∃ v', e = .returned (.agg #[.bool s, v']) ∧ Below w.heap.size w w' ∧ LentL w' (News w w') v' xs := by
  go_enter Tryz.func66, Tryz.ntmps66
  go_wp2_with fail
  have hb0 : Below w.heap.size w ((w.alloc (.cells #[.bool s, v] 30 (0, 0))).alloc (.cells #[.bool false, .slice none 0 0] 30 (0, 0))) := (Below.al w _ (Nat.le_refl _)).alloc (by simp) _
  refine (lentLimbsV (h.below hb0)).mono ?_
  rintro e w' ⟨v', rfl, hb, hl⟩
  obtain ⟨b, cs, rfl, hzb, hcb, hcl⟩ := hl
  have k0 : w'.heap[w.heap.size]? = some (.cells #[.bool s, v] 30 (0, 0)) := (hb.block _ (by simp; omega)).trans ((Below.heap_alloc _ _ _ (by simp)).trans (heap_alloc_new w _))
  have k1 : w'.heap[w.heap.size + 1]? = some (.cells #[.bool false, .slice none 0 0] 30 (0, 0)) := (hb.block _ (by simp)).trans (by have := heap_alloc_new (w.alloc (.cells #[.bool s, v] 30 (0, 0))) (.cells #[.bool false, .slice none 0 0] 30 (0, 0)); simpa using this)
  have c0 : w'.cell? ⟨w.heap.size, 0, none⟩ = some (.bool s) := by simp [World.cell?, k0]
  have c1 : w'.cell? ⟨w.heap.size, 1, none⟩ = some v := by simp [World.cell?, k0]
  have c2 : w'.cell? ⟨w.heap.size + 1, 0, none⟩ = some (.bool false) := by simp [World.cell?, k1]
  have c3 : w'.cell? ⟨w.heap.size + 1, 1, none⟩ = some (.slice none 0 0) := by simp [World.cell?, k1]
  have f0 : ∀ j, w'.frozen? ⟨w.heap.size, j, none⟩ = false := fun j => by simp [World.frozen?, k0]
  have f1 : ∀ j, w'.frozen? ⟨w.heap.size + 1, j, none⟩ = false := fun j => by simp [World.frozen?, k1]
  go_wp2
  refine bodyPost_ret (v := .agg #[.bool s, .slice (some ⟨b, 0, none⟩) xs.length (xs.length + 12)]) (by simp [results, Tryz.results66, go_sem, c2, c3]) rfl ⟨_, rfl, ?_, b, cs, rfl, ?_, ?_, hcl⟩
  · exact (((hb0.trans (hb.mono hb0.size)).setCell (by simp) _).setCell (by simp) _).setCell (by simp) _
  · unfold News at *
    simp at hzb ⊢
    omega
  · have hne : b ≠ w.heap.size ∧ b ≠ w.heap.size + 1 := by
      unfold News at hzb
      simp at hzb
      omega
    rw [heap_setCell_ne _ hne.2, heap_setCell_ne _ hne.2, heap_setCell_ne _ hne.1]
    exact hcb

theorem cell_of {w : World} {b i : Nat} {cs : Array Value} {t : TypeId} (h : w.heap[b]? = some (.cells cs t (0, 0))) : w.cell? ⟨b, i, none⟩ = cs[i]? := by simp [World.cell?, h]
theorem froz_of {w : World} {b i : Nat} {cs : Array Value} {t : TypeId} (h : w.heap[b]? = some (.cells cs t (0, 0))) : w.frozen? ⟨b, i, none⟩ = false := by simp [World.frozen?, h]
theorem News.lo {w w' : World} {b : Nat} (h : News w w' b) : w.heap.size ≤ b := h.1

theorem heap_setCell_at {w : World} {b i : Nat} {cs : Array Value} {t : TypeId} {v : Value} (h : w.heap[b]? = some (.cells cs t (0, 0))) : (w.setCell ⟨b, i, none⟩ v).heap[b]? = some (.cells (cs.setIfInBounds i v) t (0, 0)) := by
  rw [setCell_eq_setRow w b i cs t (0, 0) v h]
  exact setRow_heap _ _ _ _ _ _ h

/-- Two new boxes. -/
theorem two_new (w : World) (cs cr : Array Value) (t u : TypeId) : Below w.heap.size w ((w.alloc (.cells cs t (0, 0))).alloc (.cells cr u (0, 0))) ∧ ((w.alloc (.cells cs t (0, 0))).alloc (.cells cr u (0, 0))).heap.size = w.heap.size + 2 ∧
    ((w.alloc (.cells cs t (0, 0))).alloc (.cells cr u (0, 0))).heap[w.heap.size]? = some (.cells cs t (0, 0)) ∧ ((w.alloc (.cells cs t (0, 0))).alloc (.cells cr u (0, 0))).heap[w.heap.size + 1]? = some (.cells cr u (0, 0)) := by
  refine ⟨(Below.al w _ (Nat.le_refl _)).alloc (by simp) _, by simp, (Below.heap_alloc _ _ _ (by simp)).trans (heap_alloc_new w _), ?_⟩
  have := heap_alloc_new (w.alloc (.cells cs t (0, 0))) (.cells cr u (0, 0))
  simpa using this

set_option maxHeartbeats 4000000 in
set_option maxRecDepth 100000 in
theorem lentFrac {w : World} {s1 s2 : Bool} {v1 v2 : Value} {xs ys : List Value} (h : ReadL w v1 xs) (k : ReadL w v2 ys) (h2 : v1.oneCell' = true) (k2 : v2.oneCell' = true) :
    Calls Tryz.prog 44 #[.agg #[.bool s1, v1, .bool s2, v2]] w fun e w' => ∃ u1 u2, e = .returned (.agg #[.bool s1, u1, .bool s2, u2]) ∧ Below w.heap.size w w' ∧ LentL w' (News w w') u1 xs ∧ LentL w' (News w w') u2 ys := by
  obtain ⟨hb0, hs0, ha0, hr0⟩ := two_new w #[.bool s1, v1, .bool s2, v2] #[.bool false, .slice none 0 0, .bool false, .slice none 0 0] 32 32
  go_enter Tryz.func44, Tryz.ntmps44
  go_wp2_with fail
  refine (lentWhole (h.below hb0) h2).mono ?_
  rintro e w1 ⟨u1, rfl, hb1, hl1⟩
  obtain ⟨b1, cs1, rfl, hz1, hc1, ht1⟩ := hl1
  have n1 := hz1.lo
  have ha1 := (hb1.block _ (by omega)).trans ha0
  have hr1 := (hb1.block _ (by omega)).trans hr0
  have hs1 := hb1.size
  rw [hs0] at n1 hs1
  have c0 := cell_of ha1 (i := 0)
  have c1 := cell_of ha1 (i := 1)
  have c2 := cell_of ha1 (i := 2)
  have c3 := cell_of ha1 (i := 3)
  simp at c0 c1 c2 c3
  have f0 : ∀ j, w1.frozen? ⟨w.heap.size, j, none⟩ = false := fun j => froz_of ha1
  go_wp2_with fail
  -- the second whole
  have hB1 : Below w.heap.size w ((w1.setCell ⟨w.heap.size, 0, none⟩ (.bool s1)).setCell ⟨w.heap.size, 1, none⟩ (.slice (some ⟨b1, 0, none⟩) xs.length (xs.length + 12))) :=
    ((hb0.trans (hb1.mono (by omega))).setCell (Nat.le_refl _) _).setCell (Nat.le_refl _) _
  have ga := heap_setCell_at (i := 1) (v := .slice (some ⟨b1, 0, none⟩) xs.length (xs.length + 12)) (heap_setCell_at (i := 0) (v := .bool s1) ha1)
  have gr := (heap_setCell_ne (w1.setCell ⟨w.heap.size, 0, none⟩ (.bool s1)) (a := ⟨w.heap.size, 1, none⟩) (v := .slice (some ⟨b1, 0, none⟩) xs.length (xs.length + 12)) (b := w.heap.size + 1) (by simp)).trans ((heap_setCell_ne w1 (a := ⟨w.heap.size, 0, none⟩) (v := .bool s1) (by simp)).trans hr1)
  have gl := (heap_setCell_ne (w1.setCell ⟨w.heap.size, 0, none⟩ (.bool s1)) (a := ⟨w.heap.size, 1, none⟩) (v := .slice (some ⟨b1, 0, none⟩) xs.length (xs.length + 12)) (b := b1) (by simp; omega)).trans ((heap_setCell_ne w1 (a := ⟨w.heap.size, 0, none⟩) (v := .bool s1) (by simp; omega)).trans hc1)
  have gs : ((w1.setCell ⟨w.heap.size, 0, none⟩ (.bool s1)).setCell ⟨w.heap.size, 1, none⟩ (.slice (some ⟨b1, 0, none⟩) xs.length (xs.length + 12))).heap.size = w1.heap.size := by simp
  have l1 := (Array.getElem?_eq_some_iff.1 hc1).1
  refine (lentWhole (k.below hB1) k2).mono ?_
  rintro e w2 ⟨u2, rfl, hb2, hl2⟩
  obtain ⟨b2, cs2, rfl, hz2, hc2, ht2⟩ := hl2
  have n2 := hz2.lo
  have l2 := (Array.getElem?_eq_some_iff.1 hc2).1
  rw [gs] at n2
  have ha2 := (hb2.block _ (by omega)).trans ga
  have hr2 := (hb2.block _ (by omega)).trans gr
  have hl2 := (hb2.block _ (by omega)).trans gl
  have hB2 := hB1.trans (hb2.mono (by omega))
  clear c0 c1 c2 c3 f0
  have c0 := cell_of ha2 (i := 0)
  have c1 := cell_of ha2 (i := 1)
  have c2 := cell_of ha2 (i := 2)
  have c3 := cell_of ha2 (i := 3)
  have r0 := cell_of hr2 (i := 0)
  have r1 := cell_of hr2 (i := 1)
  have r2 := cell_of hr2 (i := 2)
  have r3 := cell_of hr2 (i := 3)
  simp at c0 c1 c2 c3 r0 r1 r2 r3
  have f0 : ∀ j, w2.frozen? ⟨w.heap.size, j, none⟩ = false := fun j => froz_of ha2
  have f1 : ∀ j, w2.frozen? ⟨w.heap.size + 1, j, none⟩ = false := fun j => froz_of hr2
  go_wp2
  have p0 : ∀ b, w.heap.size + 2 ≤ b → b ≠ w.heap.size ∧ b ≠ w.heap.size + 1 := fun b hb => by omega
  have e1 := p0 b1 (by omega)
  have e2 := p0 b2 (by omega)
  refine bodyPost_ret (v := .agg #[.bool s1, .slice (some ⟨b1, 0, none⟩) xs.length (xs.length + 12), .bool s2, .slice (some ⟨b2, 0, none⟩) ys.length (ys.length + 12)]) (by simp [results, Tryz.results44, go_sem, r0, r1, r2, r3]) rfl
    ⟨_, _, rfl, ?_, ⟨b1, cs1, rfl, ⟨by omega, by simp; omega⟩, ?_, ht1⟩, ⟨b2, cs2, rfl, ⟨by omega, by simp; omega⟩, ?_, ht2⟩⟩
  · exact (((((hB2.setCell (Nat.le_refl _) _).setCell (Nat.le_refl _) _).setCell (by simp) _).setCell (by simp) _).setCell (by simp) _).setCell (by simp) _
  · rw [heap_setCell_ne _ e1.2, heap_setCell_ne _ e1.2, heap_setCell_ne _ e1.2, heap_setCell_ne _ e1.2, heap_setCell_ne _ e1.1, heap_setCell_ne _ e1.1]
    exact hl2
  · rw [heap_setCell_ne _ e2.2, heap_setCell_ne _ e2.2, heap_setCell_ne _ e2.2, heap_setCell_ne _ e2.2, heap_setCell_ne _ e2.1, heap_setCell_ne _ e2.1]
    exact hc2

end Go.Sx.Lent
