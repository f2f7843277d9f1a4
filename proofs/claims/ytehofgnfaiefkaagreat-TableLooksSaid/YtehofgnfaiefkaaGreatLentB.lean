/-
  Lent rows: overwriting them. Conditions: as typed.
-/
import Derived.Test.YtehofgnfaiefkaaGreatLentA
set_option linter.unusedVariables false
set_option linter.unusedSimpArgs false
namespace Go.Sx.Lent
open Go Go.Proofs Go.RowKit Go.Lib Go.Sx

set_option maxHeartbeats 2000000 in
set_option maxRecDepth 100000 in
theorem overRow {w : World} {Z : Nat → Prop} {x0 x1 x2 s1 v1 s2 v2 : Value} (h : LimbV w Z v1) (k : LimbV w Z v2) (g0 : x0.oneCell' = true) (g1 : x1.oneCell' = true) (g2 : x2.oneCell' = true) (h1 : s1.oneCell' = true) (h2 : v1.oneCell' = true) (k1 : s2.oneCell' = true) (k2 : v2.oneCell' = true) :
    Calls Tryz.prog 26 #[.agg #[x0, x1, x2, s1, v1, s2, v2]] w fun e w' => e = .returned (.tuple #[]) ∧ Ov Z w w' := by
  go_enter Tryz.func26, Tryz.ntmps26
  go_wp2_with fail
  refine (overFrac (h.ov (Ov.alloc Z w _)) (k.ov (Ov.alloc Z w _)) h1 h2 k1 k2).mono ?_
  rintro e w' ⟨rfl, ho⟩
  go_wp2
  go_end0
  exact ⟨rfl, (Ov.alloc Z w _).trans ho⟩

/-- A row's cells. -/
def RowC (w : World) (Z : Nat → Prop) (cs : Array Value) (i : Nat) : Prop :=
  ∃ x0 x1 x2 s1 v1 s2 v2 : Value, cs[i * 7]? = some x0 ∧ cs[i * 7 + 1]? = some x1 ∧ cs[i * 7 + 2]? = some x2 ∧ cs[i * 7 + 3]? = some s1 ∧ cs[i * 7 + 4]? = some v1 ∧ cs[i * 7 + 5]? = some s2 ∧ cs[i * 7 + 6]? = some v2 ∧
    x0.oneCell' = true ∧ x1.oneCell' = true ∧ x2.oneCell' = true ∧ s1.oneCell' = true ∧ v1.oneCell' = true ∧ s2.oneCell' = true ∧ v2.oneCell' = true ∧ LimbV w Z v1 ∧ LimbV w Z v2

/-- Rows with room behind. -/
def RowsV (w : World) (Z : Nat → Prop) (v : Value) : Prop :=
  ∃ (b n : Nat) (cs : Array Value), v = .slice (some ⟨b, 0, none⟩) n (n + 12) ∧ n + 12 ≤ 140737488355328 ∧ w.heap[b]? = some (.cells cs 34 (0, 0)) ∧ cs.size = (n + 12) * 7 ∧ Z b ∧ ∀ i, i < n → RowC w Z cs i

theorem RowC.ov {Z : Nat → Prop} {w w' : World} {cs : Array Value} {i : Nat} (h : RowC w Z cs i) (o : Ov Z w w') : RowC w' Z cs i := by
  obtain ⟨x0, x1, x2, s1, v1, s2, v2, c0, c1, c2, c3, c4, c5, c6, o0, o1, o2, o3, o4, o5, o6, l1, l2⟩ := h
  exact ⟨x0, x1, x2, s1, v1, s2, v2, c0, c1, c2, c3, c4, c5, c6, o0, o1, o2, o3, o4, o5, o6, l1.ov o, l2.ov o⟩

set_option maxHeartbeats 2000000 in
set_option maxRecDepth 100000 in
theorem markRow (k : Int) (i : Nat) (hk : 0 ≤ k ∧ k ≤ 1000) (hi : i ≤ 140737488355328) (w : World) : Calls Tryz.prog 56 #[.int .i64 k, .int .i64 i] w fun e w' =>
    e = .returned (.agg #[.int .i64 (1000003 * (k + 7) + i), .int .i64 0, .int .i64 0, .bool false, .slice none 0 0, .bool false, .slice none 0 0]) ∧ Below w.heap.size w w' := by
  have w1 : IntKind.i64.wrap (k + 7) = k + 7 := by rw [IntKind.wrap_i64]; omega
  have w2 : IntKind.i64.wrap (1000003 * (k + 7)) = 1000003 * (k + 7) := by rw [IntKind.wrap_i64]; omega
  have w3 : IntKind.i64.wrap (1000003 * (k + 7) + i) = 1000003 * (k + 7) + i := by rw [IntKind.wrap_i64]; omega
  go_enter Tryz.func56, Tryz.ntmps56
  go_wp2
  exact bodyPost_ret (v := .agg #[.int .i64 (1000003 * (k + 7) + i), .int .i64 0, .int .i64 0, .bool false, .slice none 0 0, .bool false, .slice none 0 0]) (by simp [results, Tryz.results56, go_sem]) rfl ⟨rfl, (Below.refl _ _).alloc (Nat.le_refl _) _⟩

theorem _root_.Go.Sx.BelowX.trans {Z : Nat → Prop} {a b c : World} (h : BelowX Z a b) (k : BelowX Z b c) : BelowX Z a c :=
  ⟨k.os.trans h.os, k.tape.trans h.tape, k.output.trans h.output, Nat.le_trans h.size k.size, fun x hx hz => (k.block x (Nat.lt_of_lt_of_le hx h.size) hz).trans (h.block x hx hz)⟩
theorem BelowX.of {Z : Nat → Prop} {w w' : World} (h : Below w.heap.size w w') : BelowX Z w w' := ⟨h.os, h.tape, h.output, h.size, fun x hx _ => h.block x hx⟩

theorem rowSet {Z : Nat → Prop} {wr wx : World} {b N : Nat} (hz : Z b) (o : Nat) (v : Value) (h : ∃ cx : Array Value, BelowX Z wr wx ∧ wx.heap[b]? = some (.cells cx 34 (0, 0)) ∧ cx.size = N) :
    ∃ cx : Array Value, BelowX Z wr (wx.setCell ⟨b, o, none⟩ v) ∧ (wx.setCell ⟨b, o, none⟩ v).heap[b]? = some (.cells cx 34 (0, 0)) ∧ cx.size = N := by
  obtain ⟨cx, h1, h2, h3⟩ := h
  rw [setCell_eq_setRow wx b o cx 34 (0, 0) v h2]
  refine ⟨cx.setIfInBounds o v, h1.trans ⟨rfl, rfl, rfl, by rw [setRow_size]; exact Nat.le_refl _, fun x hx hn => setRow_other wx b x _ (fun e => by subst e; exact hn hz)⟩, setRow_heap _ _ _ _ _ _ h2, by simp [h3]⟩

set_option maxHeartbeats 4000000 in
set_option maxRecDepth 100000 in
theorem overRows {w : World} {Z : Nat → Prop} {v : Value} (h : RowsV w Z v) : Calls Tryz.prog 40 #[v] w fun e w' => e = .returned (.tuple #[]) ∧ BelowX Z w w' := by
  obtain ⟨b, n, cs, rfl, hn, hb, hs, hz, hr⟩ := h
  go_enter Tryz.func40, Tryz.ntmps40
  go_wp2
  go_loopw [2] (fun i wr => ∃ k : Nat, k ≤ n ∧ i = .int .i64 k ∧ Ov Z w wr) (fun i _ => n - (intOf i).toNat)
  case atStart => exact ⟨0, Nat.zero_le _, rfl, Ov.refl _ _⟩
  case round =>
    obtain ⟨k, hk, rfl, ho⟩ := hrel
    obtain ⟨cs', hb', hs', he⟩ := ho.row b cs 34 (0, 0) hb
    have he := he (by decide)
    subst he
    by_cases hlt : k < n
    · obtain ⟨x0, x1, x2, s1, v1, s2, v2, c0, c1, c2, c3, c4, c5, c6, o0, o1, o2, o3, o4, o5, o6, l1, l2⟩ := hr k hlt
      have q : ∀ j x, cs'[k * 7 + j]? = some x → wr.cell? ⟨b, k * 7 + j, none⟩ = some x := fun j x hx => by simp [World.cell?, hb', hx]
      have q0 : wr.cell? ⟨b, k * 7, none⟩ = some x0 := q 0 _ c0
      have q1 := q 1 _ c1
      have q2 := q 2 _ c2
      have q3 := q 3 _ c3
      have q4 := q 4 _ c4
      have q5 := q 5 _ c5
      have q6 := q 6 _ c6
      have hlt' : (k : Int) < n := by omega
      clear q
      go_wp2_with (go_at_call 26; refine (overRow (l1.ov ho) (l2.ov ho) o0 o1 o2 o3 o4 o5 o6).mono ?_; rintro e w' ⟨rfl, ho2⟩)
      go_round
      case rel => exact ⟨k + 1, by omega, by go_num, ho.trans ho2⟩
      case measure => simp [intOf]; omega
    · have hge : ¬ (k : Int) < n := by omega
      go_wp2
      go_loopw [4] (fun i wx => ∃ (k : Nat) (cx : Array Value), k ≤ n + 12 ∧ i = .int .i64 k ∧ BelowX Z wr wx ∧ wx.heap[b]? = some (.cells cx 34 (0, 0)) ∧ cx.size = (n + 12) * 7) (fun i _ => n + 12 - (intOf i).toNat)
      case atStart => exact ⟨0, cs', Nat.zero_le _, rfl, (Ov.refl Z wr).bx, hb', hs⟩
      case round =>
        obtain ⟨m, cx, hm, rfl, hx, hbx, hsx⟩ := hrel
        by_cases hlt : m < n + 12
        · have hlt' : (m : Int) < n + 12 := by omega
          go_wp2_with fail
          refine (markRow 2 m (by omega) (by omega) _).mono ?_
          rintro e w' ⟨rfl, hbel⟩
          have hbw : w'.heap[b]? = some (.cells cx 34 (0, 0)) := (hbel.block b (Array.getElem?_eq_some_iff.1 hbx).1).trans hbx
          have q : ∀ j, j < 7 → w'.cell? ⟨b, m * 7 + j, none⟩ = some (cx.getD (m * 7 + j) undef) := fun j hj => by
            have : m * 7 + j < cx.size := by omega
            simp [World.cell?, hbw, Array.getD, this]
          have q0 : w'.cell? ⟨b, m * 7, none⟩ = some (cx.getD (m * 7) undef) := q 0 (by decide)
          have q1 := q 1 (by decide)
          have q2 := q 2 (by decide)
          have q3 := q 3 (by decide)
          have q4 := q 4 (by decide)
          have q5 := q 5 (by decide)
          have q6 := q 6 (by decide)
          have f : ∀ j, w'.frozen? ⟨b, j, none⟩ = false := fun j => by simp [World.frozen?, hbw]
          clear q
          go_wp2
          go_round
          case rel =>
            have z0 : ∃ cx : Array Value, BelowX Z _ w' ∧ w'.heap[b]? = some (.cells cx 34 (0, 0)) ∧ cx.size = (n + 12) * 7 := ⟨cx, hx.trans (BelowX.of hbel), hbw, hsx⟩
            have z1 := rowSet hz (m * 7) (.int .i64 (9000027 + (m : Int))) z0
            have z2 := rowSet hz (m * 7 + 1) (.int .i64 0) z1
            have z3 := rowSet hz (m * 7 + 2) (.int .i64 0) z2
            have z4 := rowSet hz (m * 7 + 3) (.bool false) z3
            have z5 := rowSet hz (m * 7 + 4) (.slice none 0 0) z4
            have z6 := rowSet hz (m * 7 + 5) (.bool false) z5
            have z7 := rowSet hz (m * 7 + 6) (.slice none 0 0) z6
            obtain ⟨cz, y1, y2, y3⟩ := z7
            exact ⟨m + 1, cz, by omega, by go_num, y1, y2, y3⟩
          case measure => simp [intOf]; omega
        · have hge : ¬ (m : Int) < n + 12 := by omega
          go_wp2
          go_end0
          exact ⟨rfl, ho.bx.trans hx⟩

set_option maxHeartbeats 2000000 in
set_option maxRecDepth 100000 in
theorem overTable {w : World} {Z : Nat → Prop} {x0 x1 v : Value} (h : RowsV w Z v) (g0 : x0.oneCell' = true) (g1 : x1.oneCell' = true) (g2 : v.oneCell' = true) :
    Calls Tryz.prog 16 #[.agg #[x0, x1, v]] w fun e w' => e = .returned (.tuple #[]) ∧ BelowX Z w w' := by
  go_enter Tryz.func16, Tryz.ntmps16
  go_wp2_with fail
  have ha := Ov.alloc Z w (.cells #[x0, x1, v] 24 (0, 0))
  have h' : RowsV (w.alloc (.cells #[x0, x1, v] 24 (0, 0))) Z v := by
    obtain ⟨b, n, cs, e1, e2, e3, e4, e5, e6⟩ := h
    exact ⟨b, n, cs, e1, e2, (Below.heap_alloc w _ b (Array.getElem?_eq_some_iff.1 e3).1).trans e3, e4, e5, fun i hi => (e6 i hi).ov ha⟩
  refine (overRows h').mono ?_
  rintro e w' ⟨rfl, ho⟩
  go_wp2
  go_end0
  exact ⟨rfl, ha.bx.trans ho⟩

end Go.Sx.Lent
