/-
  Lent slices of limbs: overwriting them. Conditions: as typed.
-/
import Derived.Test.YtehofgnfaiefkaaGreatEngE
import Derived.Test.YtehofgnfaiefkaaGreatProg
set_option linter.unusedVariables false
set_option linter.unusedSimpArgs false
namespace Go.Sx.Lent
open Go Go.Proofs Go.RowKit Go.Lib Go.Sx

/-- Nothing but limbs among Z is written; rows keep their kinds and sizes. -/
structure Ov (Z : Nat → Prop) (w w' : World) : Prop where
  bx : BelowX Z w w'
  row : ∀ (x : Nat) (cs : Array Value) (t : TypeId) (fz : Nat × Nat), w.heap[x]? = some (.cells cs t fz) → ∃ cs' : Array Value, w'.heap[x]? = some (.cells cs' t fz) ∧ cs'.size = cs.size ∧ (t ≠ 78 → cs' = cs)

theorem Ov.refl (Z : Nat → Prop) (w : World) : Ov Z w w := ⟨⟨rfl, rfl, rfl, Nat.le_refl _, fun _ _ _ => rfl⟩, fun x cs t fz h => ⟨cs, h, rfl, fun _ => rfl⟩⟩
theorem Ov.trans {Z : Nat → Prop} {a b c : World} (h : Ov Z a b) (k : Ov Z b c) : Ov Z a c := by
  refine ⟨⟨k.bx.os.trans h.bx.os, k.bx.tape.trans h.bx.tape, k.bx.output.trans h.bx.output, Nat.le_trans h.bx.size k.bx.size, fun x hx hz => (k.bx.block x (Nat.lt_of_lt_of_le hx h.bx.size) hz).trans (h.bx.block x hx hz)⟩, fun x cs t fz hx => ?_⟩
  obtain ⟨c1, h1, h2, h3⟩ := h.row x cs t fz hx
  obtain ⟨c2, k1, k2, k3⟩ := k.row x c1 t fz h1
  exact ⟨c2, k1, k2.trans h2, fun ht => (k3 ht).trans (h3 ht)⟩

theorem Ov.setRow {Z : Nat → Prop} {w : World} {b : Nat} {cs cs' : Array Value} (hb : w.heap[b]? = some (.cells cs 78 (0, 0))) (hs : cs'.size = cs.size) (hz : Z b) : Ov Z w (w.setRow b cs') := by
  refine ⟨⟨rfl, rfl, rfl, by rw [setRow_size]; exact Nat.le_refl _, fun x hx hn => setRow_other w b x cs' (fun e => by subst e; exact hn hz)⟩, fun x c t fz hx => ?_⟩
  by_cases e : x = b
  · subst e
    rw [hb] at hx
    cases hx
    exact ⟨cs', setRow_heap _ _ _ _ _ _ hb, hs, fun h => absurd rfl h⟩
  · exact ⟨c, (setRow_other w b x cs' e).trans hx, rfl, fun _ => rfl⟩

set_option maxHeartbeats 2000000 in
set_option maxRecDepth 100000 in
theorem overLimbs (w : World) (Z : Nat → Prop) (b n : Nat) (cs : Array Value) (hn : n + 12 ≤ 140737488355328) (hb : w.heap[b]? = some (.cells cs 78 (0, 0))) (hs : cs.size = n + 12) (hz : Z b) :
    Calls Tryz.prog 90 #[.slice (some ⟨b, 0, none⟩) n (n + 12)] w fun e w' => e = .returned (.tuple #[]) ∧ Ov Z w w' := by
  go_enter Tryz.func90, Tryz.ntmps90
  go_wp2
  go_loopw [3] (fun i wr => ∃ (k : Nat) (cs' : Array Value), k ≤ n + 12 ∧ i = .int .i64 k ∧ Ov Z w wr ∧ wr.heap[b]? = some (.cells cs' 78 (0, 0)) ∧ cs'.size = n + 12) (fun i _ => n + 12 - (intOf i).toNat)
  case atStart => exact ⟨0, cs, Nat.zero_le _, rfl, Ov.refl _ _, hb, hs⟩
  case round =>
    obtain ⟨k, cs', hk, rfl, ho, hb', hs'⟩ := hrel
    have hfz : wr.frozen? ⟨b, k, none⟩ = false := by simp [World.frozen?, hb']
    by_cases hlt : k < n + 12
    · have hcell : wr.cell? ⟨b, k, none⟩ = some (cs'.getD k undef) := by simp [World.cell?, hb', Array.getD, hlt, hs']
      have hlt' : (k : Int) < n + 12 := by omega
      go_wp2
      go_round
      case rel =>
        have hset := setCell_eq_setRow wr b k cs' 78 (0, 0) (Value.int IntKind.u16 (IntKind.u16.wrap (9000027 + (k : Int)))) hb'
        refine ⟨k + 1, cs'.setIfInBounds k (Value.int IntKind.u16 (IntKind.u16.wrap (9000027 + (k : Int)))), by omega, by go_num, ?_, ?_, by simp [hs']⟩
        · rw [hset]
          exact ho.trans (Ov.setRow hb' (by simp) hz)
        · rw [hset]
          exact setRow_heap _ _ _ _ _ _ hb'
      case measure => simp [intOf]; omega
    · have hge : ¬ (k : Int) < n + 12 := by omega
      go_wp2
      go_end0
      exact ⟨rfl, ho⟩

/-- A slice of limbs with room behind, its row among Z. -/
def LimbV (w : World) (Z : Nat → Prop) (v : Value) : Prop :=
  ∃ (b n : Nat) (cs : Array Value), v = .slice (some ⟨b, 0, none⟩) n (n + 12) ∧ n + 12 ≤ 140737488355328 ∧ w.heap[b]? = some (.cells cs 78 (0, 0)) ∧ cs.size = n + 12 ∧ Z b

theorem LimbV.ov {Z : Nat → Prop} {w w' : World} {v : Value} (h : LimbV w Z v) (o : Ov Z w w') : LimbV w' Z v := by
  obtain ⟨b, n, cs, h1, h2, h3, h4, h5⟩ := h
  obtain ⟨cs', g1, g2, _⟩ := o.row b cs 78 (0, 0) h3
  exact ⟨b, n, cs', h1, h2, g1, by omega, h5⟩

theorem Ov.alloc (Z : Nat → Prop) (w : World) (o : Obj) : Ov Z w (w.alloc o) :=
  ⟨⟨rfl, rfl, rfl, (Below.alloc (Below.refl w.heap.size w) (Nat.le_refl _) o).size, fun x hx _ => Below.heap_alloc w o x hx⟩, fun x cs t fz hx => ⟨cs, (Below.heap_alloc w o x (Array.getElem?_eq_some_iff.1 hx).1).trans hx, rfl, fun _ => rfl⟩⟩

theorem overLimbsV {w : World} {Z : Nat → Prop} {v : Value} (h : LimbV w Z v) : Calls Tryz.prog 90 #[v] w fun e w' => e = .returned (.tuple #[]) ∧ Ov Z w w' := by
  obtain ⟨b, n, cs, rfl, h2, h3, h4, h5⟩ := h
  exact overLimbs w Z b n cs h2 h3 h4 h5

set_option maxHeartbeats 2000000 in
set_option maxRecDepth 100000 in
theorem overWhole {w : World} {Z : Nat → Prop} {v s : Value} (h : LimbV w Z v) (h1 : s.oneCell' = true) (h2 : v.oneCell' = true) : Calls Tryz.prog 77 #[.agg #[s, v]] w fun e w' => e = .returned (.tuple #[]) ∧ Ov Z w w' := by
  go_enter Tryz.func77, Tryz.ntmps77
  go_wp2_with fail
  refine (overLimbsV (h.ov (Ov.alloc Z w _))).mono ?_
  rintro e w' ⟨rfl, ho⟩
  go_wp2
  go_end0
  exact ⟨rfl, (Ov.alloc Z w _).trans ho⟩

/-- A box's cells, where limbs alone are written. -/
theorem Ov.box {Z : Nat → Prop} {w w' : World} {cs : Array Value} {t : TypeId} (ho : Ov Z (w.alloc (.cells cs t (0, 0))) w') (ht : t ≠ 78) (i : Nat) : w'.cell? ⟨w.heap.size, i, none⟩ = cs[i]? := by
  obtain ⟨cs', h1, _, h3⟩ := ho.row w.heap.size cs t (0, 0) (heap_alloc_new w _)
  have := h3 ht
  subst this
  simp [World.cell?, h1]

set_option maxHeartbeats 2000000 in
set_option maxRecDepth 100000 in
theorem overFrac {w : World} {Z : Nat → Prop} {v1 s1 v2 s2 : Value} (h : LimbV w Z v1) (k : LimbV w Z v2) (h1 : s1.oneCell' = true) (h2 : v1.oneCell' = true) (k1 : s2.oneCell' = true) (k2 : v2.oneCell' = true) :
    Calls Tryz.prog 54 #[.agg #[s1, v1, s2, v2]] w fun e w' => e = .returned (.tuple #[]) ∧ Ov Z w w' := by
  go_enter Tryz.func54, Tryz.ntmps54
  go_wp2_with fail
  refine (overWhole (h.ov (Ov.alloc Z w _)) h1 h2).mono ?_
  rintro e w' ⟨rfl, ho⟩
  have c2 := ho.box (by decide) 2
  have c3 := ho.box (by decide) 3
  simp at c2 c3
  go_wp2_with fail
  refine (overWhole ((k.ov (Ov.alloc Z w _)).ov ho) k1 k2).mono ?_
  rintro e w2 ⟨rfl, ho2⟩
  go_wp2
  go_end0
  exact ⟨rfl, ((Ov.alloc Z w _).trans ho).trans ho2⟩

end Go.Sx.Lent
