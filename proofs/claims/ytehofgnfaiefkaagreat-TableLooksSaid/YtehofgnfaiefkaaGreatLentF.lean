/-
  Lending a table's rows. Conditions: as typed.
-/
import Derived.Test.YtehofgnfaiefkaaGreatLentE
set_option linter.unusedVariables false
set_option linter.unusedSimpArgs false
namespace Go.Sx.Lent
open Go Go.Proofs Go.RowKit Go.Lib Go.Sx

structure R7 where
  a : Int
  b : Int
  k : Int
  s1 : Bool
  xs : List Value
  s2 : Bool
  ys : List Value

/-- Rows that are read. -/
def ReadA (w : World) (ao : Option Addr) (rows : List R7) : Prop :=
  ∀ i r, rows[i]? = some r → ∃ (bl off : Nat) (v1 v2 : Value), ao = some ⟨bl, off, none⟩ ∧
    w.cell? ⟨bl, off + i * 7, none⟩ = some (.int .i64 r.a) ∧ w.cell? ⟨bl, off + i * 7 + 1, none⟩ = some (.int .i64 r.b) ∧ w.cell? ⟨bl, off + i * 7 + 2, none⟩ = some (.int .i64 r.k) ∧ w.cell? ⟨bl, off + i * 7 + 3, none⟩ = some (.bool r.s1) ∧
    w.cell? ⟨bl, off + i * 7 + 4, none⟩ = some v1 ∧ w.cell? ⟨bl, off + i * 7 + 5, none⟩ = some (.bool r.s2) ∧ w.cell? ⟨bl, off + i * 7 + 6, none⟩ = some v2 ∧ ReadL w v1 r.xs ∧ ReadL w v2 r.ys ∧ v1.oneCell' = true ∧ v2.oneCell' = true
def ReadR (w : World) (v : Value) (rows : List R7) : Prop :=
  ∃ (ao : Option Addr) (n c : Nat), v = .slice ao n c ∧ rows.length = n ∧ 88 * (n + 12) ≤ 140737488355328 ∧ ReadA w ao rows

/-- Rows' cells that are lent. -/
def LRows (w : World) (Z : Nat → Prop) (L : List Value) (rows : List R7) : Prop :=
  L.length = rows.length * 7 ∧ ∀ i r, rows[i]? = some r → ∃ u1 u2, L[i * 7]? = some (.int .i64 r.a) ∧ L[i * 7 + 1]? = some (.int .i64 r.b) ∧ L[i * 7 + 2]? = some (.int .i64 r.k) ∧ L[i * 7 + 3]? = some (.bool r.s1) ∧ L[i * 7 + 4]? = some u1 ∧ L[i * 7 + 5]? = some (.bool r.s2) ∧ L[i * 7 + 6]? = some u2 ∧
    LentL w Z u1 r.xs ∧ LentL w Z u2 r.ys

def marksR (k : Nat) : List Value := (List.range k).flatMap fun (j : Nat) => [.int .i64 (8000024 + (j : Int)), .int .i64 0, .int .i64 0, .bool false, .slice none 0 0, .bool false, .slice none 0 0]
theorem marksR_succ (k : Nat) : marksR (k + 1) = marksR k ++ [.int .i64 (8000024 + (k : Int)), .int .i64 0, .int .i64 0, .bool false, .slice none 0 0, .bool false, .slice none 0 0] := by simp [marksR, List.range_succ]

theorem ReadA.below {w w' : World} {ao : Option Addr} {rows : List R7} (e4 : ReadA w ao rows) (hb : Below w.heap.size w w') : ReadA w' ao rows := by
  intro i r hr
  obtain ⟨bl, off, v1, v2, ha, c0, c1, c2, c3, c4, c5, c6, l1, l2, o1, o2⟩ := e4 i r hr
  have q : ∀ {a : Addr} {x : Value}, w.cell? a = some x → w'.cell? a = some x := fun hx => (hb.cell (cell_lt hx)).trans hx
  exact ⟨bl, off, v1, v2, ha, q c0, q c1, q c2, q c3, q c4, q c5, q c6, l1.below hb, l2.below hb, o1, o2⟩

theorem LentL.grown {w w' : World} {Z Z' : Nat → Prop} {v : Value} {xs : List Value} {g : Nat} (h : LentL w Z v xs) (hg : w.grownBy w' (some g)) (hn : ∀ b, Z b → b ≠ g) (hz : ∀ b, Z b → Z' b) : LentL w' Z' v xs := by
  obtain ⟨b, cs, e1, e2, e3, e4⟩ := h
  exact ⟨b, cs, e1, hz b e2, (hg.block b (Array.getElem?_eq_some_iff.1 e3).1 (fun e => hn b e2 (by simpa using e))).trans e3, e4⟩

theorem LRows.grown {w w' : World} {Z Z' : Nat → Prop} {L : List Value} {rows : List R7} {g : Nat} (h : LRows w Z L rows) (hg : w.grownBy w' (some g)) (hn : ∀ b, Z b → b ≠ g) (hz : ∀ b, Z b → Z' b) : LRows w' Z' L rows :=
  ⟨h.1, fun i r hr => by
    obtain ⟨u1, u2, c0, c1, c2, c3, c4, c5, c6, l1, l2⟩ := h.2 i r hr
    exact ⟨u1, u2, c0, c1, c2, c3, c4, c5, c6, l1.grown hg hn hz, l2.grown hg hn hz⟩⟩
theorem LRows.below {w w' : World} {Z Z' : Nat → Prop} {L : List Value} {rows : List R7} (h : LRows w Z L rows) (hb : Below w.heap.size w w') (hz : ∀ b, Z b → Z' b) : LRows w' Z' L rows :=
  ⟨h.1, fun i r hr => by
    obtain ⟨u1, u2, c0, c1, c2, c3, c4, c5, c6, l1, l2⟩ := h.2 i r hr
    exact ⟨u1, u2, c0, c1, c2, c3, c4, c5, c6, l1.below hb hz, l2.below hb hz⟩⟩

theorem LRows.snoc {w : World} {Z : Nat → Prop} {L : List Value} {rows : List R7} {r : R7} {u1 u2 : Value} (h : LRows w Z L rows) (l1 : LentL w Z u1 r.xs) (l2 : LentL w Z u2 r.ys) :
    LRows w Z (L ++ [.int .i64 r.a, .int .i64 r.b, .int .i64 r.k, .bool r.s1, u1, .bool r.s2, u2]) (rows ++ [r]) := by
  refine ⟨by simp [h.1]; omega, fun i q hq => ?_⟩
  by_cases hi : i < rows.length
  · rw [List.getElem?_append_left hi] at hq
    obtain ⟨x1, x2, c0, c1, c2, c3, c4, c5, c6, m1, m2⟩ := h.2 i q hq
    have g : ∀ j x, L[j]? = some x → (L ++ [.int .i64 r.a, .int .i64 r.b, .int .i64 r.k, .bool r.s1, u1, .bool r.s2, u2])[j]? = some x := fun j x hx => by
      rw [List.getElem?_append_left (List.getElem?_eq_some_iff.1 hx).1]; exact hx
    exact ⟨x1, x2, g _ _ c0, g _ _ c1, g _ _ c2, g _ _ c3, g _ _ c4, g _ _ c5, g _ _ c6, m1, m2⟩
  · have hlt := (List.getElem?_eq_some_iff.1 hq).1
    have e : i = rows.length := by simp at hlt; omega
    subst e
    rw [List.getElem?_append_right (Nat.le_refl _)] at hq
    simp at hq
    subst hq
    have hl := h.1
    have g : ∀ j, (L ++ [.int .i64 r.a, .int .i64 r.b, .int .i64 r.k, .bool r.s1, u1, .bool r.s2, u2])[rows.length * 7 + j]? = [Value.int .i64 r.a, .int .i64 r.b, .int .i64 r.k, .bool r.s1, u1, .bool r.s2, u2][j]? := fun j => by
      rw [List.getElem?_append_right (by omega), hl]
      congr 1
      omega
    exact ⟨u1, u2, g 0, g 1, g 2, g 3, g 4, g 5, g 6, l1, l2⟩

theorem ownsRow_below {w w' : World} {base : Nat} {e : TypeId} {size n : Nat} {v : Value} {xs : List Value} (h : w.ownsRow base e size v n xs) (hb : Below w.heap.size w w') : w'.ownsRow base e size v n xs := by
  refine ⟨h.1, ?_⟩
  rcases h.2 with h | ⟨g, cap, cur, e1, e2, e3, e4⟩
  · exact .inl h
  · exact .inr ⟨g, cap, cur, e1, e2, (hb.block g (Array.getElem?_eq_some_iff.1 e3).1).trans e3, e4⟩

theorem new_cells {l : List Value} {t : TypeId} {G : Nat} (w : World) (hG : G = w.heap.size) : ∀ (j : Nat) u, l[j]? = some u → (w.alloc (.cells l.toArray t (0, 0))).cell? ((⟨G, 0, none⟩ : Addr).add j) = some u := fun j u hu => by
  subst hG
  rw [Addr.add_lit]
  unfold World.cell?
  rw [heap_alloc_new]
  simpa using hu

theorem seven {x0 x1 x2 : Int} {s1 s2 : Bool} {a1 a2 : Option Addr} {n1 c1 n2 c2 : Nat} : ∀ u ∈ [Value.int .i64 x0, .int .i64 x1, .int .i64 x2, .bool s1, .slice a1 n1 c1, .bool s2, .slice a2 n2 c2], u.oneCell' = true := by
  intro u hu
  simp only [List.mem_cons, List.not_mem_nil, or_false] at hu
  rcases hu with rfl | rfl | rfl | rfl | rfl | rfl | rfl <;> rfl

theorem infoR : ∃ i : TypeInfo, Tryz.prog.info? 34 = some i ∧ i.size = 7 ∧ i.bytes = 88 ∧ i.zero = some (.agg #[.int .i64 0, .int .i64 0, .int .i64 0, .bool false, .slice none 0 0, .bool false, .slice none 0 0]) := ⟨Tryz.t34, by kernel_rfl, by kernel_rfl, by kernel_rfl, by kernel_rfl⟩

set_option maxHeartbeats 8000000 in
set_option maxRecDepth 100000 in
theorem lentRows {w : World} {v : Value} {rows : List R7} (h : ReadR w v rows) : Calls Tryz.prog 28 #[v] w fun e w' => e = .returned (.slice (some ⟨w.heap.size, 0, none⟩) rows.length (rows.length + 12)) ∧ Below w.heap.size w w' ∧
    ∃ (cs : Array Value) (L : List Value), w'.heap[w.heap.size]? = some (.cells cs 34 (0, 0)) ∧ cs.toList = L ++ marksR 12 ∧ LRows w' (fun b => w.heap.size < b ∧ b < w'.heap.size) L rows := by
  obtain ⟨i0, hi, hz1, hz2, hz0⟩ := infoR
  obtain ⟨ao, n, c, rfl, hn, hlim, hrow⟩ := id h
  go_enter Tryz.func28, Tryz.ntmps28
  go_wp2_with (at_make; refine wpList_make_own _ rfl _ _ 22 rfl w.heap.size 34 i0 _ 7 Tryz.underlying22 hi hz0 hz1 _ _ _ (n + 12) rfl rfl (by omega) ?b2 ?b3 (Nat.le_refl _) ?_)
  case b2 => rw [hz2]; omega
  case b3 => unfold maxLen; omega
  intro w0 hown0 hgrow0
  go_wp2
  have hg0 : Below w.heap.size w w0 := (Below.refl _ _).grown hgrow0 (Nat.le_refl _) (fun k h => by cases h)
  have hw0s : w.heap.size < w0.heap.size := by
    rcases hown0.2 with ⟨h, _⟩ | ⟨g, cap, cur, h, _, hg, _⟩
    · cases h
    · simp only [Value.slice.injEq, Option.some.injEq, Addr.mk.injEq, and_true, true_and] at h
      obtain ⟨rfl, rfl⟩ := h
      exact (Array.getElem?_eq_some_iff.1 hg).1
  go_loopw [3, 4] (fun out i wr => ∃ (k : Nat) (L : List Value), k ≤ n ∧ i = .int .i64 k ∧ out = .slice (some ⟨w.heap.size, 0, none⟩) k (n + 12) ∧ wr.ownsRow w.heap.size 34 7 (.slice (some ⟨w.heap.size, 0, none⟩) k (n + 12)) k L ∧
      LRows wr (fun b => w.heap.size < b ∧ b < wr.heap.size) L (rows.take k) ∧ Below w.heap.size w wr ∧ w.heap.size < wr.heap.size) (fun _ i _ => n - (intOf i).toNat)
  case atStart => exact ⟨0, [], Nat.zero_le _, rfl, rfl, hown0, ⟨by simp, fun i r hr => by simp at hr⟩, hg0, hw0s⟩
  case round =>
    obtain ⟨k, L, hk, rfl, rfl, hown, hL, hnx, hsz⟩ := hrel
    by_cases hlt : k < n
    · have hlt' : (k : Int) < n := by omega
      have hr : rows[k]? = some (rows[k]'(by omega)) := List.getElem?_eq_getElem _
      generalize rows[k]'(by omega) = r at hr
      obtain ⟨bl, off, v1, v2, rfl, c0, c1, c2, c3, c4, c5, c6, l1, l2, o1, o2⟩ := (hrow.below hnx) k r hr
      go_wp2_with fail
      refine (lentRow l1 l2 o1 o2).mono ?_
      rintro e w1 ⟨u1, u2, rfl, hb1, hl1, hl2⟩
      obtain ⟨b1, cs1, rfl, hz1', hc1, ht1⟩ := id hl1
      obtain ⟨b2, cs2, rfl, hz2', hc2, ht2⟩ := id hl2
      have hB1 : Below w.heap.size w w1 := hnx.trans (hb1.mono hnx.size)
      have hs1 := hb1.size
      go_wp2_with (at_builtin; refine wpList_append_fits _ rfl (.tmp 22) (.tmp 24) 22 rfl w.heap.size 34 i0 7 Tryz.underlying22 hi hz1 w.heap.size k (n + 12) L rfl (((ownsRow_below hown hb1).alloc _).alloc _) ⟨w1.heap.size + 1, 0, none⟩ 1 1 [.int .i64 r.a, .int .i64 r.b, .int .i64 r.k, .bool r.s1, .slice (some ⟨b1, 0, none⟩) r.xs.length (r.xs.length + 12), .bool r.s2, .slice (some ⟨b2, 0, none⟩) r.ys.length (r.ys.length + 12)] rfl rfl (new_cells _ (by simp)) seven (by omega) ?_; intro w2 hown2 hgrow2)
      have zlt : ∀ b, (w.heap.size < b ∧ b < wr.heap.size) → b ≠ w.heap.size := fun b hb => by omega
      have hB2 := (hB1.alloc hB1.size (.cells #[.int .i64 r.a, .int .i64 r.b, .int .i64 r.k, .bool r.s1, .slice (some ⟨b1, 0, none⟩) r.xs.length (r.xs.length + 12), .bool r.s2, .slice (some ⟨b2, 0, none⟩) r.ys.length (r.ys.length + 12)] 34 (0, 0)))
      have hB3 := hB2.alloc hB2.size (.cells #[.int .i64 r.a, .int .i64 r.b, .int .i64 r.k, .bool r.s1, .slice (some ⟨b1, 0, none⟩) r.xs.length (r.xs.length + 12), .bool r.s2, .slice (some ⟨b2, 0, none⟩) r.ys.length (r.ys.length + 12)] 34 (0, 0))
      have hA := ((Below.refl w1.heap.size w1).alloc (Nat.le_refl _) (.cells #[.int .i64 r.a, .int .i64 r.b, .int .i64 r.k, .bool r.s1, .slice (some ⟨b1, 0, none⟩) r.xs.length (r.xs.length + 12), .bool r.s2, .slice (some ⟨b2, 0, none⟩) r.ys.length (r.ys.length + 12)] 34 (0, 0))).alloc (by simp) (.cells #[.int .i64 r.a, .int .i64 r.b, .int .i64 r.k, .bool r.s1, .slice (some ⟨b1, 0, none⟩) r.xs.length (r.xs.length + 12), .bool r.s2, .slice (some ⟨b2, 0, none⟩) r.ys.length (r.ys.length + 12)] 34 (0, 0))
      have hs2 := hgrow2.size
      have hs3 := hA.size
      have hL2 : LRows w2 (fun b => w.heap.size < b ∧ b < w2.heap.size) L (rows.take k) := ((hL.below hb1 (Z' := fun b => w.heap.size < b ∧ b < wr.heap.size) fun _ x => x).below hA (Z' := fun b => w.heap.size < b ∧ b < wr.heap.size) fun _ x => x).grown hgrow2 (fun b hb => by omega) (fun b hb => by omega)
      have g1 : LentL w2 (fun b => w.heap.size < b ∧ b < w2.heap.size) (.slice (some ⟨b1, 0, none⟩) r.xs.length (r.xs.length + 12)) r.xs := (hl1.below hA (Z' := fun b => wr.heap.size ≤ b ∧ b < w1.heap.size) fun _ x => x).grown hgrow2 (fun b hb => by omega) (fun b hb => by omega)
      have g2 : LentL w2 (fun b => w.heap.size < b ∧ b < w2.heap.size) (.slice (some ⟨b2, 0, none⟩) r.ys.length (r.ys.length + 12)) r.ys := (hl2.below hA (Z' := fun b => wr.heap.size ≤ b ∧ b < w1.heap.size) fun _ x => x).grown hgrow2 (fun b hb => by omega) (fun b hb => by omega)
      go_roundw
      case rel =>
        refine ⟨k + 1, _, by omega, by go_num, rfl, hown2, ?_, hB3.grown hgrow2 hB3.size (fun k hk => by cases hk; exact Nat.le_refl _), by omega⟩
        rw [List.take_add_one, hr]
        exact hL2.snoc g1 g2
      case measure => simp [intOf]; omega
    · have hge : ¬ (k : Int) < n := by omega
      obtain rfl : k = n := by omega
      rw [List.take_of_length_le (by omega)] at hL
      go_wp2
      go_loopw [3, 6] (fun out i wx => ∃ m : Nat, m ≤ 12 ∧ i = .int .i64 m ∧ out = .slice (some ⟨w.heap.size, 0, none⟩) (k + m) (k + 12) ∧ wx.ownsRow w.heap.size 34 7 (.slice (some ⟨w.heap.size, 0, none⟩) (k + m) (k + 12)) (k + m) (L ++ marksR m) ∧
        LRows wx (fun b => w.heap.size < b ∧ b < wx.heap.size) L rows ∧ Below w.heap.size w wx ∧ w.heap.size < wx.heap.size) (fun _ i _ => 12 - (intOf i).toNat)
      case atStart => exact ⟨0, by omega, rfl, rfl, by simpa [marksR] using hown, hL, hnx, hsz⟩
      case round =>
        obtain ⟨m, hm, rfl, rfl, hown, hL, hnx, hsz⟩ := hrel
        by_cases hlt : m < 12
        · have hlt' : (m : Int) < 12 := by omega
          go_wp2_with fail
          refine (markRow 1 m (by omega) (by omega) _).mono ?_
          rintro e w1 ⟨rfl, hb1⟩
          have hB1 : Below w.heap.size w w1 := hnx.trans (hb1.mono hnx.size)
          have hs1 := hb1.size
          go_wp2_with (at_builtin; refine wpList_append_fits _ rfl (.tmp 30) (.tmp 33) 22 rfl w.heap.size 34 i0 7 Tryz.underlying22 hi hz1 w.heap.size (k + m) (k + 12) (L ++ marksR m) rfl ((ownsRow_below hown hb1).alloc _) ⟨w1.heap.size, 0, none⟩ 1 1 [.int .i64 (8000024 + (m : Int)), .int .i64 0, .int .i64 0, .bool false, .slice none 0 0, .bool false, .slice none 0 0] rfl rfl (new_cells _ rfl) seven (by omega) ?_; intro w2 hown2 hgrow2)
          have hA := (Below.refl w1.heap.size w1).alloc (Nat.le_refl _) (.cells #[.int .i64 (8000024 + (m : Int)), .int .i64 0, .int .i64 0, .bool false, .slice none 0 0, .bool false, .slice none 0 0] 34 (0, 0))
          have hB2 := hB1.alloc hB1.size (.cells #[.int .i64 (8000024 + (m : Int)), .int .i64 0, .int .i64 0, .bool false, .slice none 0 0, .bool false, .slice none 0 0] 34 (0, 0))
          have hs2 := hgrow2.size
          have hs3 := hA.size
          go_roundw
          case rel =>
            refine ⟨m + 1, by omega, by go_num, rfl, by rw [marksR_succ, ← List.append_assoc]; exact hown2, ?_, hB2.grown hgrow2 hB2.size (fun k hk => by cases hk; exact Nat.le_refl _), by omega⟩
            exact ((hL.below hb1 (Z' := fun b => w.heap.size < b ∧ b < w1.heap.size) fun b hb => by omega).below hA (Z' := fun b => w.heap.size < b ∧ b < w1.heap.size) fun _ x => x).grown hgrow2 (fun b hb => by omega) (fun b hb => by omega)
          case measure => simp [intOf]; omega
        · have hge : ¬ (m : Int) < 12 := by omega
          obtain rfl : m = 12 := by omega
          go_wp2
          go_ret
          refine ⟨rfl, hnx, ?_⟩
          rcases hown.2 with ⟨h, _⟩ | ⟨g, cap, cur, h, _, hg, _, _, hcs, htake⟩
          · cases h
          · simp only [Value.slice.injEq, Option.some.injEq, Addr.mk.injEq, and_true, true_and] at h
            obtain ⟨rfl, rfl⟩ := h
            refine ⟨cur, hg, L, ?_, hL⟩
            rw [← htake, List.take_of_length_le (by simp; omega)]

end Go.Sx.Lent
