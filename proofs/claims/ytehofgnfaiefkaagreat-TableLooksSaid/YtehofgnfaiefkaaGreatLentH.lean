/-
  What was lent is as it was. Conditions: as typed.
-/
import Derived.Test.YtehofgnfaiefkaaGreatLentK
import Derived.BigQuiet
set_option linter.unusedVariables false
set_option linter.unusedSimpArgs false
namespace Go.Sx.Lent
open Go Go.Proofs Go.RowKit Go.Lib Go.Sx

theorem drewN_below (w : World) (n : Nat) : Below w.heap.size w (w.drewN n) := ⟨rfl, rfl, rfl, Nat.le_refl _, fun _ _ => rfl⟩

set_option maxRecDepth 100000 in
theorem mark1 (m : Nat) (hm : m ≤ 140737488355328) (w : World) : Calls Tryz.prog 78 #[.int .i64 1, .int .i64 m] w fun e w' => e = .returned (.int .i64 (8000024 + (m : Int))) ∧ w' = w := by
  go_enter Tryz.func78, Tryz.ntmps78
  go_wp2
  go_ret
  exact ⟨rfl, rfl⟩

set_option maxHeartbeats 4000000 in
set_option maxRecDepth 100000 in
theorem keptLimbs {w : World} {Z : Nat → Prop} {v u : Value} {zs : List Int} (h : LentL w Z v (ints zs)) (g : ReadL w u (ints zs)) : Calls Tryz.prog 89 #[v, u] w fun e w' => e = .returned (.bool true) ∧ Below w.heap.size w w' := by
  obtain ⟨b, cs, rfl, hz, hb, hcs⟩ := h
  obtain ⟨ao, n, c, rfl, hn, hnone, hc, h1, hlim⟩ := g
  go_enter Tryz.func89, Tryz.ntmps89
  have hlen : (ints zs).length = zs.length := by simp [ints]
  have hcsz : cs.size = zs.length + 12 := by rw [← Array.length_toList, hcs, List.length_append, hlen, marksL_len]
  have get : ∀ j, cs[j]? = (ints zs ++ marksL 12)[j]? := fun j => by rw [← hcs, Array.getElem?_toList]
  have hn' : n = zs.length := by omega
  subst hn'
  rw [hlen] at *
  go_wp2
  go_loopw [6] (fun i wr => ∃ k : Nat, k ≤ zs.length + 12 ∧ i = .int .i64 k ∧ Below w.heap.size w wr) (fun i _ => zs.length + 12 - (intOf i).toNat)
  case atStart => exact ⟨0, Nat.zero_le _, rfl, Below.refl _ _⟩
  case round =>
    obtain ⟨k, hk, rfl, hnx⟩ := hrel
    have hbr : wr.heap[b]? = some (.cells cs 78 (0, 0)) := (hnx.block b (Array.getElem?_eq_some_iff.1 hb).1).trans hb
    by_cases hlt : k < zs.length + 12
    · have hlt' : (k : Int) < (zs.length : Int) + 12 := by omega
      by_cases hin : k < zs.length
      · have hin' : (k : Int) < (zs.length : Int) := by omega
        have hx : (ints zs)[k]? = some (.int .u16 zs[k]) := by simp [ints, hin]
        have q1 : wr.cell? ⟨b, k, none⟩ = some (.int .u16 zs[k]) := by
          rw [cell_of hbr, get, List.getElem?_append_left (by simp [ints]; exact hin)]
          exact hx
        obtain ⟨ad, rfl⟩ : ∃ ad, ao = some ad := by
          cases ao with
          | none => have := (hnone rfl).1; omega
          | some ad => exact ⟨ad, rfl⟩
        obtain ⟨bl, off, sp⟩ := ad
        have q2 : wr.cell? ((⟨bl, off, sp⟩ : Addr).add k) = some (.int .u16 zs[k]) := by
          have h0 := hc _ rfl k _ hx
          exact (hnx.cell (cell_lt h0)).trans h0
        clear hc
        have d1 : decide ((zs.length : Int) ≤ (k : Int)) = false := by simp; omega
        have d2 : decide ((k : Int) ≥ (zs.length : Int)) = false := by simp; omega
        have d3 : decide (zs.length ≤ k) = false := by simp; omega
        go_wp2_with fail
        go_quiet (fail)
        go_wp2
        go_round
        case rel => exact ⟨k + 1, by omega, by go_num, hnx.trans ((drewN_below wr _).mono hnx.size)⟩
        case measure => simp [intOf]; omega
      · have hm : k - zs.length < 12 := by omega
        obtain ⟨m, rfl⟩ : ∃ m, k = zs.length + m := ⟨k - zs.length, by omega⟩
        have q1 : wr.cell? ⟨b, zs.length + m, none⟩ = some (.int .u16 (IntKind.u16.wrap (8000024 + (m : Int)))) := by
          rw [cell_of hbr, get, List.getElem?_append_right (by simp [ints])]
          have : zs.length + m - (ints zs).length = m := by simp [ints]
          rw [this]
          have hm : m < 12 := by omega
          simp [marksL, hm]
        have d1 : decide ((zs.length : Int) + (m : Int) < (zs.length : Int)) = false := by simp; omega
        have d2 : decide (zs.length + m < zs.length) = false := by simp
        have d3 : decide (zs.length ≤ zs.length + m) = true := by simp
        have d4 : decide ((zs.length : Int) ≤ (zs.length : Int) + (m : Int)) = true := by simp; omega
        have d5 : decide ((m : Int) < 0) = false := by simp
        have e1 : (zs.length : Int) + (m : Int) - (zs.length : Int) = (m : Int) := by omega
        clear hc
        go_wp2_with fail
        go_quiet (first | (go_at_call 78; refine Calls.quiet_of_same (mark1 m (by omega) _)))
        go_wp2
        go_round
        case rel => exact ⟨zs.length + m + 1, by omega, by go_num, hnx.trans ((drewN_below wr _).mono hnx.size)⟩
        case measure => simp [intOf]; omega
    · have hge : ¬ (k : Int) < (zs.length : Int) + 12 := by omega
      go_wp2
      go_ret
      exact ⟨rfl, hnx⟩

end Go.Sx.Lent
