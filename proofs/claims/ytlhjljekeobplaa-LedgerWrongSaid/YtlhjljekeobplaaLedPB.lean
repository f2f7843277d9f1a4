/-
  The conditions of the reference's functions, and of the copy. Conditions: none.
-/
import Derived.Test.YtlhjljekeobplaaLedP7
import Derived.Test.YtlhjljekeobplaaLedP8
namespace Go.Sx.L

theorem rsL : ∀ x : Int, -9223372036854775808 ≤ x ∧ x ≤ 9223372036854775807 → Rng .i64 x := fun _ h => h

theorem copied_ok : V_copied := by
  intro st _ d p ⟨h1, h2⟩
  have hq : q_copied st d p st (Sl.app (Sl.lit []) d) (Sl.app (Sl.lit []) p) := ⟨rfl, eqDue_nilapp d, eqPosts_nilapp p⟩
  have e : (Sl.lit []).len = 0 := rfl
  have a1 : (Sl.len (Sl.lit []) + Sl.len d) * 8 ≤ 140737488355328 := by omega
  have a2 : (Sl.len (Sl.lit []) + Sl.len p) * 32 ≤ 140737488355328 := by omega
  exact ⟨⟨⟨a1, a2, hq, trivial⟩, a1, a2, hq, trivial⟩, a1, a2, hq, trivial⟩

theorem rHas_ok : V_rHas := by
  intro st hst d p m hm hp
  have hd0 := len0 d
  obtain ⟨h0, h1, h2⟩ : smallS st d := hp
  have rs := rsL
  refine ⟨fun i => 0 ≤ i ∧ i ≤ d.len ∧ ∀ k : Int, 0 ≤ k → k < i → st + k ≠ m, fun i => (d.len - i).toNat, ⟨Int.le_refl _, hd0, fun k g1 g2 => by omega⟩, fun i hri ⟨g0, g1, g2⟩ hsm => ⟨fun hlt => ⟨rs _ (by omega), fun e => ⟨?_, trivial⟩, fun e => ⟨rs _ (by omega), ⟨by omega, by omega, fun k k0 k1 => ?_⟩, ?_⟩⟩, fun hge => ⟨?_, trivial⟩⟩⟩
  · simp only [q_rHas, hasS, decide_true, true_iff]; omega
  · by_cases ek : k = i
    · rw [ek]; exact e
    · exact g2 k k0 (by omega)
  · show (d.len - (i + 1)).toNat < (d.len - i).toNat; omega
  · simp only [q_rHas, hasS, decide_false, Bool.false_eq_true, false_iff]
    intro hh
    exact g2 (m - st) (by omega) (by omega) (by omega)

theorem rRight_ok : V_rRight := by
  intro st hst d p day hday mo hmo kind hk amt hamt hp
  rw [rng8] at hk
  simp only [p_rRight, p_rHas, q_rHas, q_rRight, hasS, fitsS, decide_eq_true_eq, decide_true, decide_false] at *
  have hx : ∀ X : Prop, X → (True ↔ X) := fun X h => ⟨fun _ => h, fun _ => trivial⟩
  repeat' first | exact hp | apply And.intro | (intro _)
  all_goals first | trivial | grind

theorem rPosts_ok : V_rPosts := by
  intro st hst d p q hp
  have hq0 := len0 q
  have rs := rsL
  have hs : smallS st d := hp
  refine ⟨fun i => 0 ≤ i ∧ i ≤ q.len ∧ ∀ k : Int, 0 ≤ k → k < i → okAt st d.len q 0 k, fun i => (q.len - i).toNat, ⟨Int.le_refl _, hq0, fun k g1 g2 => by omega⟩, fun i hri ⟨g0, g1, g2⟩ hsm => ⟨fun hlt => ⟨g0, hlt, fun r0 r1 r2 r3 => ⟨hs, fun b hb => ?_⟩⟩, fun hge => ⟨?_, trivial⟩⟩⟩
  · have hsm' := small64 hsm
    have bad : ¬ okAt st d.len q 0 i → q_rPosts st d p q (decide False) := fun hn => by
      simp only [q_rPosts, decide_false, Bool.false_eq_true, false_iff]
      exact fun h => hn (h i g0 hlt)
    have good : okAt st d.len q 0 i → Rng .i64 (i + 1) ∧ (0 ≤ i + 1 ∧ i + 1 ≤ q.len ∧ ∀ k : Int, 0 ≤ k → k < i + 1 → okAt st d.len q 0 k) ∧ (q.len - (i + 1)).toNat < (q.len - i).toNat := fun h =>
      ⟨rs _ (by omega), ⟨by omega, by omega, fun k k0 k1 => by
        by_cases ek : k = i
        · rw [ek]; exact h
        · exact g2 k k0 (by omega)⟩, by omega⟩
    simp only [q_rRight, decide_eq_true_eq] at hb
    have hfit : b = true ↔ fitAt st d.len q i := hb
    refine ⟨fun hn => ⟨bad fun h => hn (hfit.2 h.1), trivial⟩, fun hn => ?_⟩
    have hf : fitAt st d.len q i := hfit.1 (by simpa using hn)
    refine ⟨fun hpos => ⟨rs _ (by omega), by omega, by omega, fun r4 => ⟨g0, hlt, fun r5 => ⟨fun hgt => ⟨bad fun h => ?_, trivial⟩, fun hgt => good ⟨hf, ?_⟩⟩⟩⟩, fun hpos => good ⟨hf, ?_⟩⟩
    · have := h.2
      unfold prev at this
      rw [if_neg (by omega)] at this
      omega
    · unfold prev
      rw [if_neg (by omega)]; omega
    · unfold prev
      rw [if_pos (by omega)]
      exact hf.1.1
  · simp only [q_rPosts, decide_true, true_iff]
    exact fun k k0 k1 => g2 k k0 (by omega)

theorem rValid_ok : V_rValid := by
  intro st hst d p _
  have rs := rsL
  have hd0 := len0 d
  have hp0 := len0 p
  have bad : ¬ validS st d p → q_rValid st d p (decide False) ∧ True := fun h => ⟨by simp [q_rValid, h], trivial⟩
  refine ⟨fun h => bad fun hv => ?_, fun h1 => ⟨fun h => bad fun hv => ?_, fun h2 hs1 => ⟨fun h => bad fun hv => ?_, fun h3 hs2 => ⟨rs _ (by omega), fun h => bad fun hv => ?_, fun h4 hs3 => ⟨fun h => bad fun hv => ?_, fun h5 => ?_⟩⟩⟩⟩⟩
  · have := hv.1; omega
  · have := hv.1; omega
  · have := hv.1; omega
  · have := hv.1; omega
  · have := hv.2.2.1; omega
  refine ⟨fun i => 0 ≤ i ∧ i ≤ d.len ∧ ∀ k : Int, 0 ≤ k → k < i → 0 ≤ d.int k 0 ∧ d.int k 0 ≤ 1099511627776, fun i => (d.len - i).toNat, ⟨Int.le_refl _, hd0, fun k g1 g2 => by omega⟩, fun i hri ⟨g0, g1, g2⟩ hsm => ⟨fun hlt => ⟨g0, hlt, fun r0 => ⟨fun h => bad fun hv => ?_, fun h6 => ⟨g0, hlt, fun r1 => ⟨fun h => bad fun hv => ?_, fun h7 => ⟨rs _ (by omega), ⟨by omega, by omega, fun k k0 k1 => ?_⟩, ?_⟩⟩⟩⟩⟩, fun hge => ⟨⟨by omega, by omega, by omega⟩, fun b hb => ⟨?_, trivial⟩⟩⟩⟩
  · have := hv.2.1 i g0 hlt; omega
  · have := hv.2.1 i g0 hlt; omega
  · by_cases ek : k = i
    · rw [ek]; omega
    · exact g2 k k0 (by omega)
  · show (d.len - (i + 1)).toNat < (d.len - i).toNat; omega
  · simp only [q_rPosts, q_rValid, decide_eq_true_eq] at *
    rw [hb]
    exact ⟨fun h => ⟨⟨by omega, by omega, by omega, by omega⟩, fun k k0 k1 => g2 k k0 (by omega), by omega, h⟩, fun h => h.2.2.2⟩

/-- A loop that sums. -/
theorem rsum {f : Int → Int} {p : Sl} (hn : p.len ≤ 4000) (hf : ∀ i : Int, 0 ≤ i → i < p.len → -1099511627776 ≤ f i ∧ f i ≤ 1099511627776) {x i y : Int} (h0 : 0 ≤ i) (h1 : i < p.len) (hx : x = sumTo f i.toNat) (hy : f i = y) :
    Rng .i64 (x + y) ∧ (0 ≤ i + 1 ∧ i + 1 ≤ p.len ∧ x + y = sumTo f (i + 1).toNat) ∧ (p.len - (i + 1)).toNat < (p.len - i).toNat ∧ Rng .i64 (i + 1) := by
  obtain ⟨s1, s2, s3⟩ := sum_loop (n := p.n) hn hf h0 h1 hx
  rw [hy] at s1 s3
  exact ⟨s1, ⟨by omega, by omega, s3⟩, by omega, s2⟩

theorem rPosted_ok : V_rPosted := by
  intro st _ d p mo _ hv
  obtain ⟨hb, hd, hp, hf⟩ : validS st d p := hv
  have hp0 := len0 p
  obtain ⟨f, hff⟩ : ∃ f : Int → Int, f = fun i => if p.int i 1 = mo then prin p i else 0 := ⟨_, rfl⟩
  have hbound : ∀ i : Int, 0 ≤ i → i < p.len → -1099511627776 ≤ f i ∧ f i ≤ 1099511627776 := fun i h0 h1 => by
    have := prin_bound (hf i h0 h1)
    rw [hff]
    show -1099511627776 ≤ (if p.int i 1 = mo then prin p i else 0) ∧ (if p.int i 1 = mo then prin p i else 0) ≤ 1099511627776
    split <;> omega
  refine ⟨fun x i => 0 ≤ i ∧ i ≤ p.len ∧ x = sumTo f i.toNat, fun _ i => (p.len - i).toNat, ⟨Int.le_refl _, hp0, rfl⟩, fun x _ i _ ⟨h0, h1, hx⟩ _ => ⟨fun hlt => ⟨h0, hlt, fun _ => ?_⟩, fun hge => ⟨?_, trivial⟩⟩⟩
  · have hfi : f i = if p.int i 1 = mo then (if p.int i 2 = 3 then 0 else p.int i 3) else 0 := by rw [hff]; rfl
    have zero : f i = 0 → Rng .i64 (i + 1) ∧ (0 ≤ i + 1 ∧ i + 1 ≤ p.len ∧ x = sumTo f (i + 1).toNat) ∧ (p.len - (i + 1)).toNat < (p.len - i).toNat := fun hy => by
      obtain ⟨g1, g2, g3, g4⟩ := rsum hp hbound h0 hlt hx hy
      rw [Int.add_zero] at g2
      exact ⟨g4, g2, g3⟩
    refine ⟨fun e => ⟨h0, hlt, fun _ => ⟨fun e2 => ⟨h0, hlt, fun _ => ?_⟩, fun e2 => zero ?_⟩⟩, fun e => zero (by rw [hfi, if_neg e])⟩
    · obtain ⟨g1, g2, g3, g4⟩ := rsum hp hbound h0 hlt hx (y := p.int i 3) (by rw [hfi, if_pos e, if_neg e2])
      exact ⟨g1, g4, g2, g3⟩
    · rw [hfi, if_pos e, if_pos (Classical.not_not.1 e2)]
  · have : i.toNat = p.n := by unfold Sl.len at *; omega
    rw [this, hff] at hx
    exact hx

theorem rTotal_ok : V_rTotal := by
  intro st _ d p k _ hv
  obtain ⟨hb, hd, hp, hf⟩ : validS st d p := hv
  have hp0 := len0 p
  obtain ⟨f, hff⟩ : ∃ f : Int → Int, f = fun i => if p.int i 2 = k then p.int i 3 else 0 := ⟨_, rfl⟩
  have hbound : ∀ i : Int, 0 ≤ i → i < p.len → -1099511627776 ≤ f i ∧ f i ≤ 1099511627776 := fun i h0 h1 => by
    have := amt_bound (hf i h0 h1)
    rw [hff]
    show -1099511627776 ≤ (if p.int i 2 = k then p.int i 3 else 0) ∧ (if p.int i 2 = k then p.int i 3 else 0) ≤ 1099511627776
    split <;> omega
  refine ⟨fun x i => 0 ≤ i ∧ i ≤ p.len ∧ x = sumTo f i.toNat, fun _ i => (p.len - i).toNat, ⟨Int.le_refl _, hp0, rfl⟩, fun x _ i _ ⟨h0, h1, hx⟩ _ => ⟨fun hlt => ⟨h0, hlt, fun _ => ⟨fun e => ⟨h0, hlt, fun _ => ?_⟩, fun e => ?_⟩⟩, fun hge => ⟨?_, trivial⟩⟩⟩
  · obtain ⟨g1, g2, g3, g4⟩ := rsum hp hbound h0 hlt hx (y := p.int i 3) (by rw [hff]; exact if_pos e)
    exact ⟨g1, g4, g2, g3⟩
  · obtain ⟨g1, g2, g3, g4⟩ := rsum hp hbound h0 hlt hx (y := 0) (by rw [hff]; exact if_neg e)
    rw [Int.add_zero] at g2
    exact ⟨g4, g2, g3⟩
  · have : i.toNat = p.n := by unfold Sl.len at *; omega
    rw [this, hff] at hx
    exact hx

theorem rBalance_ok : V_rBalance := by
  intro st _ d p b _ hv
  have hv' : validS st d p := hv
  have hd0 := len0 d
  have hb := hv'.1
  have rs := rsL
  refine ⟨fun x i => 0 ≤ i ∧ i ≤ d.len ∧ x = balS st d p (imin b (st + i)), fun _ i => (d.len - i).toNat, ⟨Int.le_refl _, hd0, ?_⟩, fun x _ i _ ⟨h0, h1, hx⟩ hsm => ⟨fun hlt => ⟨rs _ (by omega), fun e => ⟨h0, hlt, fun _ => ?_⟩, fun e => ?_⟩, fun hge => ⟨?_, trivial⟩⟩⟩
  · rw [bal_low hv']; unfold imin; split <;> omega
  · have e1 : imin b (st + i) = st + i := by unfold imin; split <;> omega
    have e2 : imin b (st + (i + 1)) = st + i + 1 := by unfold imin; split <;> omega
    have hs := bal_step hv' h0 hlt
    have hbb := bal_bound hv' (st + i)
    have hdd := hv'.2.1 i h0 hlt
    have hpp := postedS_bound hv' (st + i)
    rw [e1] at hx
    refine ⟨rs _ (by omega), rs _ (by omega), hv', fun y _ hy => ?_⟩
    have hy : y = postedS p (st + i) := hy
    refine ⟨rs _ (by omega), rs _ (by omega), ⟨by omega, by omega, ?_⟩, ?_⟩
    · rw [e2, hs]; omega
    · show (d.len - (i + 1)).toNat < (d.len - i).toNat; omega
  · have e1 : imin b (st + i) = b := by unfold imin; split <;> omega
    have e2 : imin b (st + (i + 1)) = b := by unfold imin; split <;> omega
    refine ⟨rs _ (by omega), ⟨by omega, by omega, by rw [e2, ← e1]; exact hx⟩, ?_⟩
    show (d.len - (i + 1)).toNat < (d.len - i).toNat; omega
  · have hi : i = d.len := by omega
    subst hi
    show x = balS st d p b
    rw [hx]
    unfold imin
    split
    · exact (bal_high hv' (by omega)).symm
    · rfl

theorem rAt_ok : V_rAt := by
  intro st _ d p day _ hv
  have hv' : validS st d p := hv
  have hp0 := len0 p
  have hp4 := hv'.2.2.1
  have rs := rsL
  have one : ∀ x y z u : Int, (Sl.lit [[.int x, .int y, .int z, .int u]]).len = 1 := fun _ _ _ _ => rfl
  refine ⟨fun s i => 0 ≤ i ∧ i ≤ p.len ∧ s.len ≤ i ∧ (∀ k : Int, 0 ≤ k → k < s.len → eqAt s k p k ∧ p.int k 0 ≤ day) ∧ (s.len < i → day < p.int s.len 0), fun _ i => (p.len - i).toNat, ⟨Int.le_refl _, hp0, Int.le_refl _, fun k k0 k1 => absurd k1 (by rw [len_nil]; omega), fun h => absurd h (by rw [len_nil]; omega)⟩, fun s i _ ⟨h0, h1, h2, h3, h4⟩ _ => ⟨fun hlt => ⟨h0, hlt, fun _ => ⟨fun e => ⟨h0, hlt, fun _ _ _ _ => ?_⟩, fun e => ?_⟩⟩, fun hge => ⟨?_, trivial⟩⟩⟩
  · have hs0 := len0 s
    have hsi : s.len = i := by
      rcases Int.lt_or_le s.len i with hh | hh
      · have g1 := h4 hh
        have g2 := day_le hv'.2.2.2 (i := s.len) (k := i) hs0 (by omega) hlt
        omega
      · omega
    have hl : (Sl.app s (Sl.lit [[(.int (p.int i 0)), (.int (p.int i 1)), (.int (p.int i 2)), (.int (p.int i 3))]])).len = i + 1 := by rw [len_app, one, hsi]
    refine ⟨by rw [one]; omega, rs _ (by omega), ⟨by omega, by omega, by rw [hl]; omega, fun k k0 k1 => ?_, fun hh => absurd hh (by rw [hl]; omega)⟩, ?_⟩
    · rw [hl] at k1
      by_cases ek : k < i
      · have g := h3 k k0 (by omega)
        unfold eqAt at g ⊢
        rw [int_app_lt k0 (by omega), int_app_lt k0 (by omega), int_app_lt k0 (by omega), int_app_lt k0 (by omega)]
        exact g
      · have ek : k = i := by omega
        subst ek
        unfold eqAt
        rw [int_app_ge (by omega), int_app_ge (by omega), int_app_ge (by omega), int_app_ge (by omega), hsi, Int.sub_self]
        exact ⟨⟨rfl, rfl, rfl, rfl⟩, e⟩
    · show (p.len - (i + 1)).toNat < (p.len - i).toNat; omega
  · have hs0 := len0 s
    refine ⟨rs _ (by omega), ⟨by omega, by omega, by omega, h3, fun hh => ?_⟩, ?_⟩
    · by_cases es : s.len < i
      · exact h4 es
      · have : s.len = i := by omega
        rw [this]; omega
    · show (p.len - (i + 1)).toNat < (p.len - i).toNat; omega
  · refine ⟨rfl, ⟨rfl, fun k _ _ => rfl⟩, by omega, h3, fun k k0 k1 => ?_⟩
    have hs0 := len0 s
    have g1 := h4 (by omega)
    have g2 := day_le hv'.2.2.2 (i := s.len) (k := k) hs0 k0 k1
    omega

end Go.Sx.L
