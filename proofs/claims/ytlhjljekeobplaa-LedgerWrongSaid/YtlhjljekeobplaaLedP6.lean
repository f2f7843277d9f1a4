/-
  What was learned, or cut at a day, is valid again; the chapter's examples. Conditions: none.
-/
import Derived.Test.YtlhjljekeobplaaLedP5
namespace Go.Sx.L

theorem sumTo_congr {f g : Int → Int} : ∀ {n : Nat}, (∀ i : Int, 0 ≤ i → i < n → f i = g i) → sumTo f n = sumTo g n
  | 0, _ => rfl
  | n + 1, h => by
    simp only [sumTo]
    rw [sumTo_congr (fun i h0 h1 => h i h0 (by omega)), h n (by omega) (by omega)]

theorem eqPosts_n {p q : Sl} (h : eqPosts p q) : p.n = q.n := by
  have := h.1
  unfold Sl.len at this
  omega

theorem postedS_eq {p q : Sl} (h : eqPosts p q) (m : Int) : postedS p m = postedS q m := by
  unfold postedS
  rw [← eqPosts_n h]
  refine sumTo_congr fun i h0 h1 => ?_
  obtain ⟨_, e1, e2, e3⟩ := h.2 i h0 h1
  unfold prin
  rw [e1, e2, e3]

theorem okAt_eq {st n n' : Int} {p q : Sl} {d0 i : Int} (hn : n ≤ n') (h : eqAt p i q i) (hprev : i ≠ 0 → p.int (i - 1) 0 = q.int (i - 1) 0) (hq : okAt st n q d0 i) : okAt st n' p d0 i := by
  obtain ⟨h1, h2⟩ := hq
  obtain ⟨e0, e1, e2, e3⟩ := h
  unfold okAt fitAt fitsS prev at *
  rw [e0, e1, e2, e3]
  obtain ⟨g1, g2⟩ := h1
  refine ⟨⟨by omega, g2⟩, ?_⟩
  by_cases e : i = 0
  · rw [if_pos e] at *; exact h2
  · rw [if_neg e] at *; rw [hprev e]; exact h2

theorem follow_eq {st n n' : Int} {p q : Sl} {d0 : Int} (hn : n ≤ n') (hl : p.len ≤ q.len) (h : ∀ i : Int, 0 ≤ i → i < p.len → eqAt p i q i) (hq : followS st n q d0) : followS st n' p d0 := fun i h0 h1 =>
  okAt_eq hn (h i h0 h1) (fun e => (h (i - 1) (by omega) (by omega)).1) (hq i h0 (by omega))

theorem learnt_valid {st : Int} {d p : Sl} {m due st' : Int} {d' p' : Sl} (hok : learnOk st d p m due) (hm : ¬ learnMany st d m) (hl : learnt st d p m due st' d' p') : validS st' d' p' := by
  obtain ⟨hv, h1, h2, h3, h4⟩ := hok
  obtain ⟨rfl, hp, hlen, hd⟩ := hl
  have hb := hv.1
  have hmax : d'.len = d.len ∨ (d'.len = d.len + 1 ∧ m = st' + d.len) := by
    rw [hlen]; unfold imax; split
    · exact .inr (by omega)
    · exact .inl rfl
  have hmany : m = st' + d.len → d.len < 1200 ∧ m < 2400 := fun e => by
    unfold learnMany at hm
    omega
  refine ⟨by omega, fun i g0 g1 => ?_, by rw [hp.1]; exact hv.2.2.1, follow_eq (by omega) (Int.le_of_eq hp.1) hp.2 hv.2.2.2⟩
  rw [hd i g0 g1]
  split
  · exact ⟨h1, h2⟩
  · exact hv.2.1 i g0 (by omega)

theorem upTo_valid {st : Int} {d p : Sl} {day : Int} {d' p' : Sl} (hv : validS st d p) (hd : eqDue d' d) (hu : upTo p day p') : validS st d' p' := by
  have hl := hd.1
  refine ⟨by rw [hl]; exact hv.1, fun i h0 h1 => by rw [hd.2 i h0 h1]; exact hv.2.1 i h0 (by omega), Int.le_trans hu.1 hv.2.2.1, follow_eq (by omega) hu.1 (fun i h0 h1 => (hu.2.1 i h0 h1).1) hv.2.2.2⟩

theorem five {P : Int → Prop} {n : Int} (hn : n = 5) (h0 : P 0) (h1 : P 1) (h2 : P 2) (h3 : P 3) (h4 : P 4) : ∀ i : Int, 0 ≤ i → i < n → P i := fun i g0 g1 => by
  have : i = 0 ∨ i = 1 ∨ i = 2 ∨ i = 3 ∨ i = 4 := by omega
  rcases this with rfl | rfl | rfl | rfl | rfl <;> assumption

theorem ex_valid {st : Int} {d p : Sl} (h : q_example st d p) : validS st d p := by
  obtain ⟨rfl, hd, d0, d1, d2, hp, ⟨a0, a1, a2, a3⟩, ⟨b0, b1, b2, b3⟩, ⟨c0, c1, c2, c3⟩, ⟨e0, e1, e2, e3⟩, ⟨f0, f1, f2, f3⟩⟩ := h
  refine ⟨by omega, fun i h0 h1 => ?_, by omega, five hp ?_ ?_ ?_ ?_ ?_⟩
  · have : i = 0 ∨ i = 1 ∨ i = 2 := by omega
    rcases this with rfl | rfl | rfl <;> omega
  all_goals simp [okAt, fitAt, fitsS, prev, hd, a0, a1, a2, a3, b0, b1, b2, b3, c0, c1, c2, c3, e0, e1, e2, e3, f0, f1, f2, f3]

theorem ex_n {st : Int} {d p : Sl} (h : q_example st d p) : p.n = 5 ∧ d.n = 3 := by
  have h1 := h.2.1
  have h2 := h.2.2.2.2.2.1
  unfold Sl.len at h1 h2
  omega

theorem sumTo3 (f : Int → Int) : sumTo f 3 = f 0 + f 1 + f 2 := by simp [sumTo]
theorem sumTo2 (f : Int → Int) : sumTo f 2 = f 0 + f 1 := by simp [sumTo]
theorem sumTo5 (f : Int → Int) : sumTo f 5 = f 0 + f 1 + f 2 + f 3 + f 4 := by simp [sumTo]

theorem ex_posted {st : Int} {d p : Sl} (h : q_example st d p) : postedS p 1500 = 100 ∧ postedS p 1501 = 90 ∧ postedS p 1502 = 130 := by
  have hn := (ex_n h).1
  obtain ⟨rfl, hd, d0, d1, d2, hp, ⟨a0, a1, a2, a3⟩, ⟨b0, b1, b2, b3⟩, ⟨c0, c1, c2, c3⟩, ⟨e0, e1, e2, e3⟩, ⟨f0, f1, f2, f3⟩⟩ := h
  unfold postedS
  rw [hn, sumTo5, sumTo5, sumTo5]
  simp [prin, a1, a2, a3, b1, b2, b3, c1, c2, e1, e2, e3, f1, f2, f3]

theorem ex_bal {st : Int} {d p : Sl} (h : q_example st d p) : balS st d p 1502 = 10 ∧ balS st d p 1503 = 0 := by
  have hn := (ex_n h).1
  obtain ⟨rfl, hd, d0, d1, d2, hp, ⟨a0, a1, a2, a3⟩, ⟨b0, b1, b2, b3⟩, ⟨c0, c1, c2, c3⟩, ⟨e0, e1, e2, e3⟩, ⟨f0, f1, f2, f3⟩⟩ := h
  unfold balS
  rw [hn, hd]
  have l1 : (lastS 1500 3 1502 - 1500).toNat = 2 := by decide
  have l2 : (lastS 1500 3 1503 - 1500).toNat = 3 := by decide
  rw [l1, l2, sumTo2, sumTo3, sumTo5, sumTo5]
  simp [prin, d0, d1, d2, a1, a2, a3, b1, b2, b3, c1, c2, e1, e2, e3, f1, f2, f3]

end Go.Sx.L
