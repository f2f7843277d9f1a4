/-
  slices.Insert at the rows of a table: no room, in the midst: a new row. Conditions: as typed.
-/
import Derived.Test.YtjljnieafhdkgaaGreatDoorInsB
set_option linter.unusedVariables false
set_option linter.unusedSimpArgs false
namespace Go.Sx.Ins
open Go Go.Proofs Go.RowKit Go.Lib Go.Sx

/-- The new row before the copying. -/
def row0 (cs : Array Value) (z : Array Value) (i n m G : Nat) : Array Value := (cs.toList.take (i * 7)).toArray ++ Builtin.zeroCells z (n + m - i) ++ Builtin.zeroCells z (G - (n + m))

theorem row0_size {cs z : Array Value} {i n m G : Nat} (hz : z.size = 7) (hi : i * 7 ≤ cs.size) (hin : i ≤ n) (hG : n + m ≤ G) : (row0 cs z i n m G).size = G * 7 := by
  simp only [row0, Array.size_append, size_zeroCells, hz]
  have : (cs.toList.take (i * 7)).toArray.size = i * 7 := by simp; omega
  rw [this]
  omega

set_option maxHeartbeats 4000000 in
set_option maxRecDepth 100000 in
/-- No room, in the midst. -/
theorem grow (b cap i n vb m vc : Nat) (cs vcs : Array Value) (z : Value) (inf : TypeInfo) (w : World) (hi : i < n) (hm : 0 < m) (hnc : n ≤ cap) (hroom : cap < n + m)
    (hb : w.heap[b]? = some (.cells cs 56 (0, 0))) (hsz : cs.size = cap * 7) (hv : w.heap[vb]? = some (.cells vcs 56 (0, 0))) (hvz : m * 7 ≤ vcs.size)
    (hinf : Tryz.prog.info? 56 = some inf) (hzv : inf.zero = some z) (hzs : z.cells.size = 7) (hbig : (n + m) * inf.bytes ≤ 140737488355328) (hby : 0 < inf.bytes)
    (h1c : ∀ v ∈ (cs.toList.take (n * 7)).drop (i * 7), v.oneCell' = true) (h1v : ∀ v ∈ vcs.toList.take (m * 7), v.oneCell' = true) :
    Calls Tryz.prog 60 #[.slice (some ⟨b, 0, none⟩) n cap, .int .i64 i, .slice (some ⟨vb, 0, none⟩) m vc] w fun e w' =>
      ∃ G r1 r2, n + m ≤ G ∧ G ≤ maxLen ∧ e = .returned (.slice (some ⟨w.heap.size, 0, none⟩) (n + m) G) ∧ r1 = seg (row0 cs z.cells i n m G) (i * 7) (vcs.toList.take (m * 7)) ∧ r2 = seg r1 ((i + m) * 7) ((cs.toList.take (n * 7)).drop (i * 7)) ∧
        Below w.heap.size w w' ∧ w'.heap[w.heap.size]? = some (.cells r2 56 (0, 0)) := by
  have hz1 : ¬ ((m : Int) = 0) := by omega
  have hz2 : ¬ ((i : Int) = (n : Int)) := by omega
  have hz3 : (cap : Int) < (n : Int) + (m : Int) := by omega
  have hlt1 : ((cs.toList.take (n * 7)).drop (i * 7)).length = (n - i) * 7 := by simp; omega
  have hlt2 : (vcs.toList.take (m * 7)).length = m * 7 := by simp; omega
  have hs7 : inf.size = 7 := by
    obtain ⟨i0, h, h1, _⟩ := info40
    rw [hinf] at h; cases h; exact h1
  have hbw : b < w.heap.size := (Array.getElem?_eq_some_iff.1 hb).1
  have hvw : vb < w.heap.size := (Array.getElem?_eq_some_iff.1 hv).1
  have hkk : (n : Int) + (m : Int) - (i : Int) = ((n + m - i : Nat) : Int) := by omega
  have hik : i + (n + m - i) = n + m := by omega
  have hold : (Builtin.firstCells inf.size i (.slice (some ⟨b, 0, none⟩) i cap)).run Tryz.prog w.drew = .ok (cs.toList.take (i * 7)).toArray w.drew := by
    rw [hs7]
    exact run_firstCells_some w.drew 7 i ⟨b, 0, none⟩ i cap (cs.toList.take (i * 7)) (by simp; omega) (row_cell (w := w.drew) hb fun j hj => by
      have hj : j < i * 7 := by simp at hj; omega
      rw [List.getElem?_take, if_pos hj, Array.getElem?_toList, Nat.zero_add])
  obtain ⟨G, hG⟩ : ∃ G, G = grownCap w (n + m) cap 56 := ⟨_, rfl⟩
  have hnm47 : n + m ≤ 140737488355328 := Nat.le_trans (Nat.le_mul_of_pos_right _ hby) hbig
  have hGn : n + m ≤ G := by rw [hG]; exact grownCap_ge w _ _ _
  have hGm : G ≤ maxLen := by rw [hG]; exact grownCap_le_maxLen w (n + m) cap 56 (by unfold maxLen; omega)
  have hG63 : G ≤ 9223372036854775807 := by unfold maxLen at hGm; omega
  obtain ⟨ROW, hROW⟩ : ∃ ROW : Array Value, ROW = row0 cs z.cells i n m G := ⟨_, rfl⟩
  have hRs : ROW.size = G * 7 := by rw [hROW]; exact row0_size hzs (by omega) (by omega) hGn
  have hrz : ∀ ty, (Builtin.append_ #[25, 3] ty #[.slice (some ⟨b, 0, none⟩) i cap, .int .i64 ((n : Int) + (m : Int) - (i : Int))]).run Tryz.prog w =
      .ok (.slice (some ⟨w.heap.size, 0, none⟩) (n + m) G) (w.drew.alloc (.cells ROW 56)) := fun ty => by
    have h := Lib.run_append_grow_zeros w 25 3 ty 56 inf z .i64 .i64 Tryz.underlying25 Tryz.underlying3 hinf hzv (some ⟨b, 0, none⟩) i cap (cs.toList.take (i * 7)) hold (n + m - i) (by omega) (by omega) (by omega) (by omega)
      (by have := Nat.mul_le_mul_right inf.bytes (show n + m - i ≤ n + m by omega); omega) (by rw [hik]; exact growslice_fits hroom hbig)
    rw [hik] at h
    rw [hkk, hROW, hG]
    exact h
  obtain ⟨r1, hr1⟩ : ∃ r1, r1 = seg ROW (i * 7) (vcs.toList.take (m * 7)) := ⟨_, rfl⟩
  obtain ⟨r2, hr2⟩ : ∃ r2, r2 = seg r1 ((i + m) * 7) ((cs.toList.take (n * 7)).drop (i * 7)) := ⟨_, rfl⟩
  have hr1s : r1.size = G * 7 := by rw [hr1, seg_size (by rw [hlt2]; omega), hRs]
  have hcpA : ∀ (W : World), W.heap[w.heap.size]? = some (.cells ROW 56 (0, 0)) → W.heap[vb]? = some (.cells vcs 56 (0, 0)) → ∀ ty dc, (Builtin.copy_ #[25, 25] ty #[.slice (some ⟨w.heap.size, i * 7, none⟩) (n + m - i) dc, .slice (some ⟨vb, 0, none⟩) m vc]).run Tryz.prog W = .ok (goInt m) (W.setRow w.heap.size r1) := fun W hW hWv ty dc => by
    have := run_copy_rowL (P := Tryz.prog) W 25 25 ty 56 7 w.heap.size (i * 7) (n + m - i) dc ⟨vb, 0, none⟩ m vc ROW 56 (vcs.toList.take (m * 7)) Tryz.underlying25 size40 hW
      (by rw [hlt2]; congr 1; simp only [Nat.min_def]; split <;> omega) (row_cell hWv fun j hj => by
        rw [hlt2] at hj
        rw [List.getElem?_take, if_pos (by omega), Array.getElem?_toList, Nat.zero_add]) (by rw [hlt2]; omega) h1v
    rw [this, hr1, show Nat.min m (n + m - i) = m by simp only [Nat.min_def]; split <;> omega]
  have hcpB : ∀ (W : World), W.heap[w.heap.size]? = some (.cells r1 56 (0, 0)) → W.heap[b]? = some (.cells cs 56 (0, 0)) → ∀ ty dc sc, (Builtin.copy_ #[25, 25] ty #[.slice (some ⟨w.heap.size, (i + m) * 7, none⟩) (n + m - (i + m)) dc, .slice (some ⟨b, i * 7, none⟩) (n - i) sc]).run Tryz.prog W = .ok (goInt ((n - i : Nat) : Int)) (W.setRow w.heap.size r2) := fun W hW hWb ty dc sc => by
    have := run_copy_rowL (P := Tryz.prog) W 25 25 ty 56 7 w.heap.size ((i + m) * 7) (n + m - (i + m)) dc ⟨b, i * 7, none⟩ (n - i) sc r1 56 ((cs.toList.take (n * 7)).drop (i * 7)) Tryz.underlying25 size40 hW
      (by rw [hlt1]; congr 1; simp only [Nat.min_def]; split <;> omega) (row_cell hWb fun j hj => by
        rw [hlt1] at hj
        rw [List.getElem?_drop, List.getElem?_take, if_pos (by omega), Array.getElem?_toList]) (by rw [hlt1]; omega) h1c
    rw [this, hr2, show Nat.min (n - i) (n + m - (i + m)) = n - i by simp only [Nat.min_def]; split <;> omega]
  have hA1 : ((w.alloc (.cells ROW 56)).drew).heap[w.heap.size]? = some (.cells ROW 56 (0, 0)) := heap_alloc_new w _
  have hA2 : ((w.alloc (.cells ROW 56)).drew).heap[vb]? = some (.cells vcs 56 (0, 0)) := (Below.heap_alloc w _ vb hvw).trans hv
  have hA3 : ((w.alloc (.cells ROW 56)).drew).heap[b]? = some (.cells cs 56 (0, 0)) := (Below.heap_alloc w _ b hbw).trans hb
  have hB1 : (((w.alloc (.cells ROW 56)).drew.setRow w.heap.size r1).drew).heap[w.heap.size]? = some (.cells r1 56 (0, 0)) := setRow_heap _ _ _ _ _ _ hA1
  have hB2 : (((w.alloc (.cells ROW 56)).drew.setRow w.heap.size r1).drew).heap[b]? = some (.cells cs 56 (0, 0)) := (setRow_other _ _ _ _ (by omega)).trans hA3
  have hcA := hcpA _ hA1 hA2
  have hcB := hcpB _ hB1 hB2
  have hC1 : ((((w.alloc (.cells ROW 56)).drew.setRow w.heap.size r1).drew).setRow w.heap.size r2).heap[w.heap.size]? = some (.cells r2 56 (0, 0)) := setRow_heap _ _ _ _ _ _ hB1
  have hC2 : Below w.heap.size w ((((w.alloc (.cells ROW 56)).drew.setRow w.heap.size r1).drew).setRow w.heap.size r2) := by
    refine ⟨rfl, rfl, rfl, ?_, fun k hk => ?_⟩
    · rw [setRow_size]
      show w.heap.size ≤ ((w.alloc (.cells ROW 56)).drew.setRow w.heap.size r1).heap.size
      rw [setRow_size]
      exact (Below.alloc (Below.refl w.heap.size w) (Nat.le_refl _) _).size
    · exact (setRow_other _ _ _ _ (by omega)).trans ((setRow_other _ _ _ _ (by omega)).trans (Below.heap_alloc w _ k hk))
  have hfin : ∃ G r1 r2, n + m ≤ G ∧ G ≤ maxLen ∧ Ending.returned (.slice (some ⟨w.heap.size, 0, none⟩) (n + m) G) = Ending.returned (.slice (some ⟨w.heap.size, 0, none⟩) (n + m) G) ∧ r1 = seg (row0 cs z.cells i n m G) (i * 7) (vcs.toList.take (m * 7)) ∧ r2 = seg r1 ((i + m) * 7) ((cs.toList.take (n * 7)).drop (i * 7)) ∧ True := ⟨G, r1, r2, hGn, hGm, rfl, by rw [hr1, hROW], hr2, trivial⟩
  have hend : ∀ w', w' = ((((w.alloc (.cells ROW 56)).drew.setRow w.heap.size r1).drew).setRow w.heap.size r2) → ∃ G' r1 r2, n + m ≤ G' ∧ G' ≤ maxLen ∧ Ending.returned (.slice (some ⟨w.heap.size, 0, none⟩) (n + m) G) = Ending.returned (.slice (some ⟨w.heap.size, 0, none⟩) (n + m) G') ∧ r1 = seg (row0 cs z.cells i n m G') (i * 7) (vcs.toList.take (m * 7)) ∧ r2 = seg r1 ((i + m) * 7) ((cs.toList.take (n * 7)).drop (i * 7)) ∧
        Below w.heap.size w w' ∧ w'.heap[w.heap.size]? = some (.cells r2 56 (0, 0)) := fun w' hw' => by
    subst hw'
    exact ⟨G, r1, r2, hGn, hGm, rfl, by rw [hr1, hROW], hr2, hC2, hC1⟩
  have hw1 : IntKind.i64.wrap ((i : Int) + (m : Int)) = (i : Int) + (m : Int) := by rw [IntKind.wrap_i64]; omega
  have hb1 : (0 : Int) ≤ (i : Int) + (m : Int) := by omega
  have hin : i ≤ n := by omega
  have htn : ((i : Int) + (m : Int)).toNat = i + m := by omega
  have hb3 : (i : Int) ≤ (n : Int) := by omega
  have hGi : ¬ (G = i) := by omega
  have hGim : ¬ (G = i + m) := by omega
  have hci : ¬ (cap = i) := by omega
  have hbN : b ≠ w.heap.size := by omega
  clear hkk hik hold hROW hG hr1 hr2 hC1 hC2 hfin hB1 hB2 hA1 hA2 hA3 hcpA hcpB
  have mixed : Tryz.prog.follows .mixedOrders = true := by kernel_rfl
  go_enter Tryz.func60, Tryz.ntmps60
  go_wp2_with (first
    | (at_builtin; refine Lib.wpList_append_run _ rfl _ _ _ _ rfl _ _ rfl rfl _ _ (hrz _) ?_)
    | (at_builtin; refine wpList_copy_runI _ rfl _ _ 25 25 rfl _ _ rfl rfl (hcA _ _) ?_))
  go_region_law_o (refine step_copy_runI rfl _ _ 25 25 rfl (.slice (some ⟨w.heap.size, (i + m) * 7, none⟩) (n + m - (i + m)) (G - (i + m))) (.slice (some ⟨b, i * 7, none⟩) (n - i) (cap - i)) (by simp [Act.eval, Act.put]) (by simp [Act.eval, Act.put]) (hcB _ _ _) ?_)
  go_wp2
  go_ret
  exact hend _ rfl

end Go.Sx.Ins
