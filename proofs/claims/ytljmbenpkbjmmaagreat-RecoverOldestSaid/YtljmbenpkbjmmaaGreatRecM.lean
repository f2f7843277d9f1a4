/-
  What is taken, and what is overpaid behind it: plain laws. Conditions: none.
-/
import Derived.Test.YtljmbenpkbjmmaaGreatRecFc
set_option linter.unusedVariables false
set_option linter.unusedSimpArgs false
namespace Go.Sx.N

section
variable {st : Int} {d p : Sl}

theorem sumTo_congr {f g : Int → Int} : ∀ {n : Nat}, (∀ i : Int, 0 ≤ i → i < n → f i = g i) → sumTo f n = sumTo g n
  | 0, _ => rfl
  | n + 1, h => by
    simp only [sumTo]
    rw [sumTo_congr (n := n) fun i h0 h1 => h i h0 (by omega), h n (by omega) (by omega)]
theorem sumTo_plus {f : Int → Int} (a : Nat) : ∀ b : Nat, sumTo f (a + b) = sumTo f a + sumTo (fun i => f (a + i)) b
  | 0 => by simp [sumTo]
  | b + 1 => by
    rw [← Nat.add_assoc]
    simp only [sumTo]
    rw [sumTo_plus a b, Int.natCast_add]
    omega
theorem sumTo_sub {f g : Int → Int} : ∀ n : Nat, sumTo (fun i => f i - g i) n = sumTo f n - sumTo g n
  | 0 => by simp [sumTo]
  | n + 1 => by
    simp only [sumTo]
    rw [sumTo_sub n]; omega
theorem sumTo_zero {f : Int → Int} {n : Nat} (h : ∀ i : Int, 0 ≤ i → i < n → f i = 0) : sumTo f n = 0 := by
  rw [sumTo_stop (k := 0) (Nat.zero_le _) (fun i h0 h1 => h i h0 h1)]; rfl

/-! Sums over lists of rows -/
theorem lit_int_lt {l : List (List D)} {r : List D} {i : Int} {j : Nat} (h0 : 0 ≤ i) (h1 : i < l.length) : (Sl.lit (l ++ [r])).int i j = (Sl.lit l).int i j := by
  rw [← lit_app]
  exact int_app_lt h0 (by rw [len_lit]; exact h1)
theorem lit_int_new {l : List (List D)} {r : List D} {j : Nat} : (Sl.lit (l ++ [r])).int (l.length : Int) j = (Sl.lit [r]).int 0 j := by
  rw [← lit_app, int_app_ge (by rw [len_lit]; exact Int.le_refl _), len_lit, Int.sub_self]
theorem sum_snoc {l : List (List D)} {r : List D} {F : Sl → Int → Int} (hF : ∀ s t : Sl, ∀ i k : Int, (∀ j : Nat, s.int i j = t.int k j) → F s i = F t k) :
    sumTo (F (Sl.lit (l ++ [r]))) (Sl.lit (l ++ [r])).n = sumTo (F (Sl.lit l)) (Sl.lit l).n + F (Sl.lit [r]) 0 := by
  have e : (Sl.lit (l ++ [r])).n = (Sl.lit l).n + 1 := by simp [Sl.lit]
  rw [e]
  simp only [sumTo]
  congr 1
  · exact sumTo_congr fun i h0 h1 => hF _ _ _ _ fun j => lit_int_lt h0 h1
  · exact hF _ _ _ _ fun j => lit_int_new
theorem sum_eq {F : Sl → Int → Int} (hF : ∀ s t : Sl, ∀ i k : Int, (∀ j : Nat, j < 4 → s.int i j = t.int k j) → F s i = F t k) {s t : Sl} (h : eqPosts s t) : sumTo (F s) s.n = sumTo (F t) t.n := by
  have e : s.n = t.n := by have := h.1; unfold Sl.len at this; omega
  rw [e]
  refine sumTo_congr fun i h0 h1 => hF _ _ _ _ fun j hj => ?_
  obtain ⟨a0, a1, a2, a3⟩ := h.2 i h0 (by have := h.1; unfold Sl.len at *; omega)
  rcases (show j = 0 ∨ j = 1 ∨ j = 2 ∨ j = 3 by omega) with rfl | rfl | rfl | rfl <;> assumption
def postF (m : Int) (s : Sl) (i : Int) : Int := if s.int i 1 = m then prin s i else 0
def kindF (k : Int) (s : Sl) (i : Int) : Int := if s.int i 2 = k then s.int i 3 else 0
theorem postF_eq {m : Int} (s t : Sl) (i k : Int) (h : ∀ j : Nat, j < 4 → s.int i j = t.int k j) : postF m s i = postF m t k := by
  unfold postF prin
  rw [h 1 (by decide), h 2 (by decide), h 3 (by decide)]
theorem kindF_eq {m : Int} (s t : Sl) (i k : Int) (h : ∀ j : Nat, j < 4 → s.int i j = t.int k j) : kindF m s i = kindF m t k := by
  unfold kindF
  rw [h 2 (by decide), h 3 (by decide)]
theorem posted_def (p : Sl) (m : Int) : postedS p m = sumTo (postF m p) p.n := rfl
theorem total_def (p : Sl) (k : Int) : totalS p k = sumTo (kindF k p) p.n := rfl

theorem sum_behind {F : Sl → Int → Int} (hF : ∀ s t : Sl, ∀ i k : Int, (∀ j : Nat, j < 4 → s.int i j = t.int k j) → F s i = F t k) {p q r : Sl} (h : behind p q r) : sumTo (F r) r.n = sumTo (F p) p.n + sumTo (F q) q.n := by
  have e : r.n = p.n + q.n := by have := h.1; unfold Sl.len at this; omega
  rw [e, sumTo_plus]
  congr 1
  · refine sumTo_congr fun i h0 h1 => hF _ _ _ _ fun j hj => ?_
    obtain ⟨a0, a1, a2, a3⟩ := h.2.1 i h0 h1
    rcases (show j = 0 ∨ j = 1 ∨ j = 2 ∨ j = 3 by omega) with rfl | rfl | rfl | rfl <;> assumption
  · refine sumTo_congr fun i h0 h1 => hF _ _ _ _ fun j hj => ?_
    obtain ⟨a0, a1, a2, a3⟩ := h.2.2 i h0 h1
    rcases (show j = 0 ∨ j = 1 ∨ j = 2 ∨ j = 3 by omega) with rfl | rfl | rfl | rfl <;> assumption

/-! What is taken -/
section
variable {m lim day : Int}
theorem used_bd (hv : validS st d p) (hl : 0 ≤ lim) {k : Nat} (hk : (k : Int) < d.len) :
    0 ≤ usedS st d p m lim k ∧ usedS st d p m lim k ≤ posi (ov st d p k) ∧ usedS st d p m lim k ≤ leftS st d p m lim k ∧ (m ≤ st + k → usedS st d p m lim k = 0) := by
  have lb := left_bd hv (m := m) hl (n := k) (by omega)
  have pb := posi_bd hv (k := k) (by omega) hk
  unfold usedS useS
  split
  · unfold imin; split <;> exact ⟨by omega, by omega, by omega, fun _ => by omega⟩
  · exact ⟨by omega, by omega, by omega, fun _ => rfl⟩
theorem posi_pos {x : Int} (h : 0 < posi x) : posi x = x ∧ 0 < x := by
  unfold posi at *
  split at h
  · rename_i g; rw [if_pos g]; exact ⟨rfl, g⟩
  · omega
/-- What is left. -/
theorem left_eq (hv : validS st d p) (hl : 0 ≤ lim) : ∀ {n : Nat}, (n : Int) ≤ d.len → leftS st d p m lim n = posi (lim - sumTo (fun k => if st + k < m then posi (ov st d p k) else 0) n)
  | 0, _ => by
    simp only [leftS, sumTo]
    unfold posi; split <;> omega
  | n + 1, hn => by
    have ih := left_eq hv hl (n := n) (by omega)
    have pb := posi_bd hv (k := n) (by omega) (by omega)
    simp only [leftS, sumTo]
    unfold useS
    generalize sumTo (fun k => if st + k < m then posi (ov st d p k) else 0) n = S at *
    generalize posi (ov st d p n) = g at *
    rw [ih]
    by_cases h : st + (n : Int) < m
    · rw [if_pos h, if_pos h]
      unfold imin posi
      (repeat' split) <;> omega
    · rw [if_neg h, if_neg h, Int.sub_zero, Int.add_zero]
theorem taken_eq (hv : validS st d p) (hl : 0 ≤ lim) : lim - leftS st d p m lim d.n = imin lim (outS st d p m) ∧ 0 ≤ lim - leftS st d p m lim d.n ∧ lim - leftS st d p m lim d.n ≤ lim := by
  have e := left_eq hv (m := m) hl (n := d.n) (Int.le_refl _)
  have ob := out_bd hv m (n := d.n) (Int.le_refl _)
  have : outS st d p m = sumTo (fun k => if st + k < m then posi (ov st d p k) else 0) d.n := rfl
  rw [← this] at e ob
  rw [e]
  unfold imin posi
  split <;> split <;> omega
/-- The rows. -/
theorem rows_at : ∀ {n : Nat} {i : Nat}, i < (rowsS st d p day m lim n).length → ∃ k : Nat, k < n ∧ 0 < usedS st d p m lim k ∧ (rowsS st d p day m lim n)[i]? = some [.int day, .int (st + k), .int 4, .int (-(usedS st d p m lim k))]
  | 0, i, h => by simp [rowsS] at h
  | n + 1, i, h => by
    simp only [rowsS] at h ⊢
    by_cases hu : 0 < usedS st d p m lim n
    · rw [if_pos hu] at h ⊢
      by_cases e : i < (rowsS st d p day m lim n).length
      · obtain ⟨k, k0, k1, k2⟩ := rows_at e
        exact ⟨k, by omega, k1, by rw [List.getElem?_append_left e]; exact k2⟩
      · have : i = (rowsS st d p day m lim n).length := by simp at h; omega
        subst this
        exact ⟨n, by omega, hu, by simp⟩
    · rw [if_neg hu] at h ⊢
      obtain ⟨k, k0, k1, k2⟩ := rows_at h
      exact ⟨k, by omega, k1, k2⟩
theorem post_at {s : Sl} (h : eqPosts s (Sl.lit (rowsS st d p day m lim d.n))) {i : Int} (i0 : 0 ≤ i) (i1 : i < s.len) :
    ∃ k : Nat, (k : Int) < d.len ∧ 0 < usedS st d p m lim k ∧ s.int i 0 = day ∧ s.int i 1 = st + k ∧ s.int i 2 = 4 ∧ s.int i 3 = -(usedS st d p m lim k) := by
  have l := h.1
  rw [len_lit] at l
  obtain ⟨k, k0, k1, k2⟩ := rows_at (st := st) (d := d) (p := p) (day := day) (m := m) (lim := lim) (n := d.n) (i := i.toNat) (by omega)
  obtain ⟨a0, a1, a2, a3⟩ := h.2 i i0 i1
  have at_ : ∀ j : Nat, (Sl.lit (rowsS st d p day m lim d.n)).int i j = (([D.int day, .int (st + k), .int 4, .int (-(usedS st d p m lim k))]).getD j (.int 0)).toI := fun j => by
    show ((((rowsS st d p day m lim d.n).getD i.toNat []).getD j (.int 0))).toI = _
    rw [show (rowsS st d p day m lim d.n).getD i.toNat [] = [D.int day, .int (st + k), .int 4, .int (-(usedS st d p m lim k))] from by rw [List.getD_eq_getElem?_getD, k2]; rfl]
  rw [at_] at a0 a1 a2 a3
  exact ⟨k, by unfold Sl.len; omega, k1, a0, a1, a2, a3⟩

/-- How much is posted for a month. -/
theorem rows_posted (k : Nat) : ∀ n : Nat, sumTo (postF (st + k) (Sl.lit (rowsS st d p day m lim n))) (Sl.lit (rowsS st d p day m lim n)).n = if k < n ∧ 0 < usedS st d p m lim k then -(usedS st d p m lim k) else 0
  | 0 => by
    rw [if_neg (by omega)]; rfl
  | n + 1 => by
    have ih := rows_posted k n
    simp only [rowsS]
    by_cases hu : 0 < usedS st d p m lim n
    · rw [if_pos hu, sum_snoc (F := postF (st + k)) (fun s t i k h => postF_eq s t i k fun j _ => h j), ih]
      have e : postF (st + k) (Sl.lit [[.int day, .int (st + n), .int 4, .int (-(usedS st d p m lim n))]]) 0 = if st + (n : Int) = st + k then -(usedS st d p m lim n) else 0 := rfl
      rw [e]
      by_cases hk : k = n
      · subst hk
        rw [if_neg (by omega), if_pos rfl, if_pos ⟨by omega, hu⟩]; omega
      · rw [if_neg (show ¬ (st + (n : Int) = st + k) by omega), Int.add_zero]
        by_cases hc : k < n ∧ 0 < usedS st d p m lim k
        · rw [if_pos hc, if_pos ⟨by omega, hc.2⟩]
        · rw [if_neg hc, if_neg (by omega)]
    · rw [if_neg hu, ih]
      by_cases hc : k < n ∧ 0 < usedS st d p m lim k
      · rw [if_pos hc, if_pos ⟨by omega, hc.2⟩]
      · rw [if_neg hc, if_neg]
        rintro ⟨h1, h2⟩
        by_cases hk : k = n
        · subst hk; exact hu h2
        · exact hc ⟨by omega, h2⟩
theorem take_posted (hv : validS st d p) (hl : 0 ≤ lim) {s : Sl} (h : eqPosts s (Sl.lit (rowsS st d p day m lim d.n))) {k : Nat} (hk : (k : Int) < d.len) : postedS s (st + k) = -(usedS st d p m lim k) := by
  have ub := used_bd hv (m := m) hl hk
  rw [posted_def, sum_eq postF_eq h, rows_posted]
  split
  · rfl
  · rename_i hh
    have : ¬ 0 < usedS st d p m lim k := fun g => hh ⟨by unfold Sl.len at hk; omega, g⟩
    omega
/-- How much is taken back. -/
theorem rows_total : ∀ n : Nat, sumTo (kindF 4 (Sl.lit (rowsS st d p day m lim n))) (Sl.lit (rowsS st d p day m lim n)).n = -(sumTo (fun k => if 0 < usedS st d p m lim k.toNat then usedS st d p m lim k.toNat else 0) n)
  | 0 => rfl
  | n + 1 => by
    have ih := rows_total n
    simp only [rowsS, sumTo]
    have en : ((n : Int)).toNat = n := by omega
    rw [en]
    by_cases hu : 0 < usedS st d p m lim n
    · rw [if_pos hu, sum_snoc (F := kindF 4) (fun s t i k h => kindF_eq s t i k fun j _ => h j), ih]
      have e : kindF 4 (Sl.lit [[.int day, .int (st + n), .int 4, .int (-(usedS st d p m lim n))]]) 0 = -(usedS st d p m lim n) := rfl
      rw [e, if_pos hu]; omega
    · rw [if_neg hu, ih, if_neg hu]; omega
theorem used_sum (hv : validS st d p) (hl : 0 ≤ lim) : ∀ {n : Nat}, (n : Int) ≤ d.len → sumTo (fun k => if 0 < usedS st d p m lim k.toNat then usedS st d p m lim k.toNat else 0) n = lim - leftS st d p m lim n
  | 0, _ => by simp only [sumTo, leftS]; omega
  | n + 1, hn => by
    have ih := used_sum hv hl (n := n) (by omega)
    have ub := used_bd hv (m := m) hl (k := n) (by omega)
    simp only [sumTo, leftS]
    have en : ((n : Int)).toNat = n := by omega
    rw [ih, en]
    have : useS st d p m (leftS st d p m lim n) n = usedS st d p m lim n := rfl
    rw [this]
    split <;> omega
theorem take_total (hv : validS st d p) (hl : 0 ≤ lim) {s : Sl} (h : eqPosts s (Sl.lit (rowsS st d p day m lim d.n))) : totalS s 4 = -(lim - leftS st d p m lim d.n) := by
  rw [total_def, sum_eq kindF_eq h, rows_total, used_sum hv hl (Int.le_refl _)]

/-! Behind it -/
variable {d' p' s : Sl}
theorem ov_behind (hv : validS st d p) (hl : 0 ≤ lim) (hs : eqPosts s (Sl.lit (rowsS st d p day m lim d.n))) (hd : eqDue d' d) (hb : behind p s p') {k : Nat} (hk : (k : Int) < d.len) : ov st d' p' k = ov st d p k - usedS st d p m lim k := by
  unfold ov
  rw [posted_def p', sum_behind postF_eq hb, ← posted_def, ← posted_def, take_posted hv hl hs hk, hd.2 k (by omega) (by rw [hd.1]; exact hk)]
  omega
theorem posi_used (hv : validS st d p) (hl : 0 ≤ lim) {k : Nat} (hk : (k : Int) < d.len) : posi (ov st d p k - usedS st d p m lim k) = posi (ov st d p k) - usedS st d p m lim k := by
  have ub := used_bd hv (m := m) hl hk
  generalize usedS st d p m lim k = u at *
  unfold posi at *
  split at ub <;> split <;> omega
theorem out_behind (hv : validS st d p) (hl : 0 ≤ lim) (hs : eqPosts s (Sl.lit (rowsS st d p day m lim d.n))) (hd : eqDue d' d) (hb : behind p s p') : outS st d' p' m = outS st d p m - (lim - leftS st d p m lim d.n) := by
  have en : d'.n = d.n := by have := hd.1; unfold Sl.len at this; omega
  unfold outS
  rw [en, ← used_sum hv hl (m := m) (n := d.n) (Int.le_refl _), ← sumTo_sub]
  refine sumTo_congr fun i h0 h1 => ?_
  have ei : ((i.toNat : Nat) : Int) = i := by omega
  have hk : ((i.toNat : Nat) : Int) < d.len := by unfold Sl.len; omega
  have o := ov_behind hv hl hs hd hb hk
  have pu := posi_used hv (m := m) hl hk
  have ub := used_bd hv (m := m) hl hk
  rw [ei] at o pu ub
  rw [o]
  by_cases h : st + i < m
  · rw [if_pos h, if_pos h, pu]
    split <;> omega
  · rw [if_neg h, if_neg h, ub.2.2.2 (by omega)]; simp
theorem total_behind (hv : validS st d p) (hl : 0 ≤ lim) (hs : eqPosts s (Sl.lit (rowsS st d p day m lim d.n))) (hb : behind p s p') : totalS p' 4 = totalS p 4 - (lim - leftS st d p m lim d.n) := by
  rw [total_def p', sum_behind kindF_eq hb, ← total_def, ← total_def, take_total hv hl hs]; omega
end

/-! Shares of the statements -/
theorem part_share {n k : Int} {a c : Bool} {b f : Sl} (h : q_kFrac n k a b c f) (hk : 1 ≤ k ∧ k ≤ 65536) (hn : 0 ≤ n ∧ n ≤ k) : okShare a b c f ∧ fq a b f = Rat.divInt n k ∧ (Rat.divInt n k).den ≤ 65536 ∧ 0 ≤ Rat.divInt n k ∧ Rat.divInt n k ≤ 1 := by
  have hq := h.1
  rw [fracQ_eq hk.1] at hq
  have e := hq.fq
  have k0 : (0 : Rat) < (k : Rat) := Rat.intCast_pos.2 (by omega)
  have h0 : 0 ≤ Rat.divInt n k := by
    rw [Rat.divInt_eq_div, ← Rat.not_lt, Rat.div_lt_iff k0, Rat.not_lt, Rat.zero_mul]
    exact Rat.intCast_le_intCast.2 hn.1
  have h1 : Rat.divInt n k ≤ 1 := by
    rw [Rat.divInt_eq_div, ← Rat.not_lt, Rat.lt_div_iff k0, Rat.not_lt, Rat.one_mul]
    exact Rat.intCast_le_intCast.2 hn.2
  have hd : (Rat.divInt n k).den ≤ 65536 := by
    have := divInt_den_le (n := n) (d := k) (by omega)
    omega
  exact ⟨⟨⟨hq.lowF, by have := h.2.1; omega, by have := h.2.2; omega⟩, by rw [e]; exact h0, by rw [e]; exact h1⟩, e, hd, h0, h1⟩
theorem part_limit {m n k : Int} {a c : Bool} {b f : Sl} (h : q_kFrac n k a b c f) (hk : 1 ≤ k ∧ k ≤ 65536) (hn : 0 ≤ n ∧ n ≤ k) (hv : validS st d p) (hm : hasS st d m) :
    limS st d p m a b c f (Rat.divInt n k * ((d.int (m - st) 0 : Int) : Rat)).floor 0 ∧ 0 ≤ (Rat.divInt n k * ((d.int (m - st) 0 : Int) : Rat)).floor ∧ (Rat.divInt n k * ((d.int (m - st) 0 : Int) : Rat)).floor ≤ d.int (m - st) 0 := by
  obtain ⟨hs, e, hd, h0, h1⟩ := part_share h hk hn
  have db := hv.2.1 (m - st) (by have := hm.1; omega) (by have := hm.2; omega)
  have ft := share_fit h0 h1 (by omega) db.1 db.2
  refine ⟨⟨fun g => absurd ⟨hv, hs⟩ g, fun _ => ⟨fun g => absurd hm g, fun _ => ?_⟩⟩, share_bd h0 h1 db.1 db.2⟩
  rw [e]
  exact ⟨fun _ => ⟨rfl, rfl⟩, fun g => absurd ft g⟩
theorem lim_invalid {m : Int} {a c : Bool} {b f : Sl} (hv : ¬ validS st d p) : limS st d p m a b c f 0 2 := ⟨fun _ => ⟨rfl, rfl⟩, fun k => absurd k.1 hv⟩
theorem lim_month {m : Int} {a c : Bool} {b f : Sl} (hv : validS st d p) (hs : okShare a b c f) (hm : ¬ hasS st d m) : limS st d p m a b c f 0 6 := ⟨fun k => absurd ⟨hv, hs⟩ k, fun _ => ⟨fun _ => ⟨rfl, rfl⟩, fun k => absurd k hm⟩⟩

/-- Whatever the share, there is the same error; or there is none. -/
theorem take_cases (st : Int) (d p : Sl) (day m : Int) :
    (∃ E : Int, E ≠ 0 ∧ ∀ (n k : Int) (a c : Bool) (b f s : Sl) (e : Int), q_kFrac n k a b c f → 1 ≤ k ∧ k ≤ 65536 → 0 ≤ n ∧ n ≤ k → takeS st d p day m a b c f s e → e = E ∧ s.len = 0) ∨
    (validS st d p ∧ hasS st d m ∧ (0 ≤ day ∧ day < 65536) ∧ ∀ (n k : Int) (a c : Bool) (b f s : Sl) (e : Int), q_kFrac n k a b c f → 1 ≤ k ∧ k ≤ 65536 → 0 ≤ n ∧ n ≤ k → takeS st d p day m a b c f s e →
      e = 0 ∧ eqPosts s (Sl.lit (rowsS st d p day m (Rat.divInt n k * ((d.int (m - st) 0 : Int) : Rat)).floor d.n))) := by
  by_cases hv : validS st d p
  · by_cases hm : hasS st d m
    · by_cases hd : 0 ≤ day ∧ day < 65536
      · refine .inr ⟨hv, hm, hd, fun n k a c b f s e h hk hn ht => ?_⟩
        have := (ht _ _ (part_limit h hk hn hv hm).1).2 rfl
        have := this.2 hd
        exact ⟨this.2, this.1⟩
      · refine .inl ⟨2, by decide, fun n k a c b f s e h hk hn ht => ?_⟩
        have := (ht _ _ (part_limit h hk hn hv hm).1).2 rfl
        have := this.1 hd
        exact ⟨this.2, this.1⟩
    · refine .inl ⟨6, by decide, fun n k a c b f s e h hk hn ht => ?_⟩
      have := (ht _ _ (lim_month hv (part_share h hk hn).1 hm)).1 (by decide)
      exact ⟨this.2, this.1⟩
  · refine .inl ⟨2, by decide, fun n k a c b f s e h hk hn ht => ?_⟩
    have := (ht _ _ (lim_invalid hv)).1 (by decide)
    exact ⟨this.2, this.1⟩
end

end Go.Sx.N
