/-
  slices.Insert at the rows of a table: its roads. Conditions: as typed.
-/
import Derived.Test.YtjljnieafhdkgaaGreatDoorInsA
set_option linter.unusedVariables false
set_option linter.unusedSimpArgs false
namespace Go.Sx.Ins
open Go Go.Proofs Go.RowKit Go.Lib Go.Sx

theorem info40 : ∃ i : TypeInfo, Tryz.prog.info? 56 = some i ∧ i.size = 7 ∧ i.bytes = 88 := ⟨Tryz.t56, by kernel_rfl, by kernel_rfl, by kernel_rfl⟩

theorem size40 : (Tryz.prog.info? 56).map (·.size) = some 7 := by
  obtain ⟨i, h, h1, _⟩ := info40
  rw [h]; simp [h1]

set_option maxHeartbeats 4000000 in
set_option maxRecDepth 100000 in
/-- There is room, in the midst: in place. -/
theorem shift (b cap i n vb m vc : Nat) (cs vcs : Array Value) (w : World) (hi : i < n) (hm : 0 < m) (hroom : n + m ≤ cap) (hc63 : cap ≤ 9223372036854775807) (hne : vb ≠ b)
    (hb : w.heap[b]? = some (.cells cs 56 (0, 0))) (hsz : cs.size = cap * 7) (hv : w.heap[vb]? = some (.cells vcs 56 (0, 0))) (hvz : m * 7 ≤ vcs.size) 
    (h1c : ∀ v ∈ (cs.toList.take (n * 7)).drop (i * 7), v.oneCell' = true) (h1v : ∀ v ∈ vcs.toList.take (m * 7), v.oneCell' = true) :
    Calls Tryz.prog 60 #[.slice (some ⟨b, 0, none⟩) n cap, .int .i64 i, .slice (some ⟨vb, 0, none⟩) m vc] w fun e w' =>
      e = .returned (.slice (some ⟨b, 0, none⟩) (n + m) cap) ∧ w' = (w.drew.setRow b (seg cs ((i + m) * 7) ((cs.toList.take (n * 7)).drop (i * 7)))).setRow b (seg (seg cs ((i + m) * 7) ((cs.toList.take (n * 7)).drop (i * 7))) (i * 7) (vcs.toList.take (m * 7))) := by
  have hz1 : ¬ ((m : Int) = 0) := by omega
  have hz2 : ¬ ((i : Int) = (n : Int)) := by omega
  have hlt1 : ((cs.toList.take (n * 7)).drop (i * 7)).length = (n - i) * 7 := by simp; omega
  have hlt2 : (vcs.toList.take (m * 7)).length = m * 7 := by simp; omega
  have hov : ∀ lb cb, (callFunc 88 #[.slice (some ⟨vb, 0, none⟩) m vc, .slice (some ⟨b, (i + m) * 7, none⟩) lb cb]).run Tryz.prog w = .ok (.value (.bool false)) w := fun lb cb => by
    rw [run_callFunc_extern Tryz.func88 (by kernel_rfl) (by kernel_rfl) (by kernel_rfl) (e := Extern.SlicesOverlaps.overlaps #[25, 25] #[4]) (by kernel_rfl),
      Lib.run_overlaps_apart w 25 4 56 Tryz.underlying25 7 Tryz.sizeOf56 ⟨vb, 0, none⟩ ⟨b, (i + m) * 7, none⟩ m vc lb cb hne 56 56 vcs.size cs.size (by simp [World.shape?, hv]) (by simp [World.shape?, hb]) (by omega) (by simp [World.frozen?, hv]) (by simp [World.frozen?, hv])]
    rfl
  have hw1 : IntKind.i64.wrap ((i : Int) + (m : Int)) = (i : Int) + (m : Int) := by rw [IntKind.wrap_i64]; omega
  have hb1 : (0 : Int) ≤ (i : Int) + (m : Int) := by omega
  have hin : i ≤ n := by omega
  have htn : ((i : Int) + (m : Int)).toNat = i + m := by omega
  have hb2 : ¬ (cap = i + m) := by omega
  have hb3 : (i : Int) ≤ (n : Int) + (m : Int) := by omega
  have hb4 : ¬ (cap = i) := by omega
  have hcp1 : ∀ ty dc sc, (Builtin.copy_ #[25, 25] ty #[.slice (some ⟨b, (i + m) * 7, none⟩) (n + m - (i + m)) dc, .slice (some ⟨b, i * 7, none⟩) (n + m - i) sc]).run Tryz.prog w.drew = .ok (goInt ((n - i : Nat) : Int)) (w.drew.setRow b (seg cs ((i + m) * 7) ((cs.toList.take (n * 7)).drop (i * 7)))) := fun ty dc sc => by
    have := run_copy_rowL (P := Tryz.prog) w.drew 25 25 ty 56 7 b ((i + m) * 7) (n + m - (i + m)) dc ⟨b, i * 7, none⟩ (n + m - i) sc cs 56 ((cs.toList.take (n * 7)).drop (i * 7)) Tryz.underlying25 size40 hb
      (by rw [hlt1]; congr 1; simp only [Nat.min_def]; split <;> omega) (row_cell (w := w.drew) hb fun j hj => by
        rw [hlt1] at hj
        rw [List.getElem?_drop, List.getElem?_take, if_pos (by omega), Array.getElem?_toList]) (by rw [hlt1]; omega) h1c
    rw [this, show Nat.min (n + m - i) (n + m - (i + m)) = n - i by simp only [Nat.min_def]; split <;> omega]
  obtain ⟨c1, hc1⟩ : ∃ c1, c1 = seg cs ((i + m) * 7) ((cs.toList.take (n * 7)).drop (i * 7)) := ⟨_, rfl⟩
  have hc1s : c1.size = cap * 7 := by rw [hc1, seg_size (by rw [hlt1]; omega), hsz]
  rw [← hc1] at hcp1 ⊢
  have hb' : (w.drew.setRow b c1).heap[b]? = some (.cells c1 56 (0, 0)) := setRow_heap w.drew b cs c1 _ _ hb
  have hv' : (w.drew.setRow b c1).heap[vb]? = some (.cells vcs 56 (0, 0)) := (setRow_other w.drew b vb c1 hne).trans hv
  have hcp2 : ∀ ty dc, (Builtin.copy_ #[25, 25] ty #[.slice (some ⟨b, i * 7, none⟩) (n + m - i) dc, .slice (some ⟨vb, 0, none⟩) m vc]).run Tryz.prog (w.drew.setRow b c1) = .ok (goInt m) ((w.drew.setRow b c1).setRow b (seg c1 (i * 7) (vcs.toList.take (m * 7)))) := fun ty dc => by
    have := run_copy_rowL (P := Tryz.prog) (w.drew.setRow b c1) 25 25 ty 56 7 b (i * 7) (n + m - i) dc ⟨vb, 0, none⟩ m vc c1 56 (vcs.toList.take (m * 7)) Tryz.underlying25 size40 hb'
      (by rw [hlt2]; congr 1; simp only [Nat.min_def]; split <;> omega) (row_cell hv' fun j hj => by
        rw [hlt2] at hj
        rw [List.getElem?_take, if_pos (by omega), Array.getElem?_toList, Nat.zero_add]) (by rw [hlt2]; omega) h1v
    rw [this, show Nat.min m (n + m - i) = m by simp only [Nat.min_def]; split <;> omega]
  clear hc1
  have mixed : Tryz.prog.follows .mixedOrders = true := by kernel_rfl
  go_enter Tryz.func60, Tryz.ntmps60
  go_wp2_with (simp only [hov])
  go_region_law_o (refine step_copy_runI rfl _ _ 25 25 rfl _ _ (by simp [Act.eval, Act.put]) (by simp [Act.eval, Act.put]) (hcp1 _ _ _) ?_)
  go_wp2_with (at_builtin; refine wpList_copy_runI _ rfl _ _ 25 25 rfl _ _ rfl rfl (hcp2 _ _) ?_)
  go_ret
  exact ⟨rfl, rfl⟩

end Go.Sx.Ins
