/-
  Lending limbs. Conditions: as typed.
-/
import Derived.Test.YtehofgnfaiefkaaGreatLentB
set_option linter.unusedVariables false
set_option linter.unusedSimpArgs false
namespace Go.Sx.Lent
open Go Go.Proofs Go.RowKit Go.Lib Go.Sx

/-- The marks behind limbs. -/
def marksL (k : Nat) : List Value := (List.range k).map fun (j : Nat) => .int .u16 (IntKind.u16.wrap (8000024 + (j : Int)))
theorem marksL_succ (k : Nat) : marksL (k + 1) = marksL k ++ [.int .u16 (IntKind.u16.wrap (8000024 + (k : Int)))] := by simp [marksL, List.range_succ]
theorem marksL_len (k : Nat) : (marksL k).length = k := by simp [marksL]

theorem infoU : ∃ i : TypeInfo, Tryz.prog.info? 78 = some i ∧ i.zero = some (.int .u16 0) ∧ i.size = 1 ∧ i.bytes = 2 := ⟨Tryz.t78, by kernel_rfl, by kernel_rfl, by kernel_rfl, by kernel_rfl⟩

theorem cell_lt {w : World} {a : Addr} {v : Value} (h : w.cell? a = some v) : a.block < w.heap.size := by
  unfold World.cell? at h
  cases hh : w.heap[a.block]? with
  | none => simp [hh] at h
  | some o => exact (Array.getElem?_eq_some_iff.1 hh).1

theorem new_cell (w : World) (v : Value) (t : TypeId) : (w.alloc (.cells #[v] t (0, 0))).cell? ((⟨w.heap.size, 0, none⟩ : Addr).add 0) = some v := by
  show World.cell? _ ⟨w.heap.size, 0 + 0, none⟩ = _
  unfold World.cell?
  rw [heap_alloc_new]
  rfl

set_option maxHeartbeats 4000000 in
set_option maxRecDepth 100000 in
theorem lentLimbs (w : World) (ao : Option Addr) (n c : Nat) (xs : List Value) (hn : xs.length = n) (hlim : 2 * (n + 12) ≤ 140737488355328) (h1 : ∀ u ∈ xs, u.oneCell' = true) (hnone : ao = none → n = 0 ∧ c = 0)
    (hc : ∀ ad, ao = some ad → ∀ (j : Nat) u, xs[j]? = some u → w.cell? (ad.add j) = some u) :
    Calls Tryz.prog 80 #[.slice ao n c] w fun e w' => e = .returned (.slice (some ⟨w.heap.size, 0, none⟩) n (n + 12)) ∧ Below w.heap.size w w' ∧
      ∃ cs : Array Value, w'.heap[w.heap.size]? = some (.cells cs 78 (0, 0)) ∧ cs.size = n + 12 ∧ cs.toList = xs ++ marksL 12 := by
  obtain ⟨i0, hi, hz0, hz1, hz2⟩ := infoU
  go_enter Tryz.func80, Tryz.ntmps80
  go_wp2_with (at_make; refine wpList_make_own _ rfl _ _ 28 rfl w.heap.size 78 i0 (.int .u16 0) 1 Tryz.underlying28 hi hz0 hz1 _ _ _ (n + 12) rfl rfl (by omega) ?b2 ?b3 (Nat.le_refl _) ?_)
  case b2 => rw [hz2]; omega
  case b3 => unfold maxLen; omega
  intro w0 hown0 hgrow0
  have hcw : ∀ ad, ao = some ad → ∀ (j : Nat) u, xs[j]? = some u → w0.cell? (ad.add j) = some u := fun ad e j u hu => by
    have h := hc ad e j u hu
    have hlt : (ad.add j).block < w.heap.size := cell_lt h
    rw [← h]
    exact ((Below.refl _ _).grown hgrow0 (Nat.le_refl _) (fun k h => by cases h)).cell hlt
  go_wp2_with (at_builtin; refine wpList_append_fits_any _ rfl (.tmp 9) (.tmp 10) 28 rfl w.heap.size 78 i0 1 Tryz.underlying28 hi hz1 w.heap.size 0 (n + 12) _ rfl hown0 ao n c xs rfl (by simp [hn]) hnone hcw h1 (by omega) ?_; intro w1 hown1 hgrow1)
  rw [List.nil_append, Nat.zero_add] at hown1
  go_wp2
  go_loopw [3, 4] (fun out i wr => ∃ k : Nat, k ≤ 12 ∧ i = .int .i64 k ∧ out = .slice (some ⟨w.heap.size, 0, none⟩) (n + k) (n + 12) ∧ wr.ownsRow w.heap.size 78 1 (.slice (some ⟨w.heap.size, 0, none⟩) (n + k) (n + 12)) (n + k) (xs ++ marksL k) ∧ Below w.heap.size w wr) (fun _ i _ => 12 - (intOf i).toNat)
  case atStart => exact ⟨0, by omega, rfl, rfl, by simpa [marksL] using hown1, ((Below.refl _ _).grown hgrow0 (Nat.le_refl _) (fun k h => by cases h)).grown hgrow1 hgrow0.size (fun k hk => by cases hk; exact Nat.le_refl _)⟩
  case round =>
    obtain ⟨k, hk, rfl, rfl, hown, hnx⟩ := hrel
    by_cases hlt : k < 12
    · have hlt' : (k : Int) < 12 := by omega
      go_wp2_with (first
        | (go_at_call 78; go_in)
        | (at_builtin; refine wpList_append_fits _ rfl (.tmp 16) (.tmp 20) 28 rfl w.heap.size 78 i0 1 Tryz.underlying28 hi hz1 w.heap.size (n + k) (n + 12) _ rfl (hown.alloc _) ⟨wr.heap.size, 0, none⟩ 1 1 [.int .u16 (IntKind.u16.wrap (8000024 + (k : Int)))] rfl rfl (by intro t u ht; match t, ht with | 0, ht => simp at ht; subst ht; exact new_cell wr _ 78) (by intro u hu; simp at hu; subst hu; rfl) (by omega) ?_; intro w2 hown2 hgrow2))
      go_roundw
      case rel => exact ⟨k + 1, by omega, by go_num, rfl, by rw [marksL_succ, ← List.append_assoc]; exact hown2, (hnx.alloc hnx.size _).grown hgrow2 (by simp; have := hnx.size; omega) (fun k hk => by cases hk; exact Nat.le_refl _)⟩
      case measure => simp [intOf]; omega
    · have hge : ¬ (k : Int) < 12 := by omega
      obtain rfl : k = 12 := by omega
      go_wp2
      go_ret
      refine ⟨rfl, hnx, ?_⟩
      rcases hown.2 with ⟨h, _⟩ | ⟨g, cap, cur, h, _, hg, _, _, hcs, htake⟩
      · cases h
      · simp only [Value.slice.injEq, Option.some.injEq, Addr.mk.injEq, and_true, true_and] at h
        obtain ⟨rfl, rfl⟩ := h
        refine ⟨cur, hg, by omega, ?_⟩
        rw [← htake, List.take_of_length_le (by simp; omega)]

end Go.Sx.Lent
