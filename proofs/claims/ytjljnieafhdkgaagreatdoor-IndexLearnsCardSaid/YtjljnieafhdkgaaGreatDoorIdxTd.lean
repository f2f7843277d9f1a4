/-
  What is taken over from the texts of the tables: rows put in. Conditions: none.
-/
import Derived.Test.YtjljnieafhdkgaaGreatDoorIdxTc
set_option linter.unusedVariables false
set_option linter.unusedSimpArgs false
namespace Go.Sx.N

/-! ### Rows put in -/
theorem ltR_congr {s t u v : Sl} {i k j l : Int} (h : rowEq s i t k) (g : rowEq u j v l) : ltR s i u j ↔ ltR t k v l := by
  unfold ltR
  rw [h.1, h.2.1, h.2.2.1, g.1, g.2.1, g.2.2.1]

theorem ins_len {u r t : Sl} (h : ins u r t) : t.len = u.len + 1 := by obtain ⟨p, h, _⟩ := h; exact h.1

theorem ins_sorted {u r t : Sl} (hs : sortedT u) (h : ins u r t) : sortedT t := by
  obtain ⟨p, ⟨hl, hp, h1, h2, h3⟩, h4⟩ := h
  intro i i0 i1 hlt
  rcases Int.lt_trichotomy i p with c | c | c
  · rw [ltR_congr (h1 i (by omega) c) (h1 (i - 1) (by omega) (by omega))] at hlt
    exact hs i i0 (by omega) hlt
  · subst c
    rw [ltR_congr h2 (h1 (i - 1) (by omega) (by omega))] at hlt
    exact h4 (i - 1) (by omega) (by omega) hlt
  · have a := h3 (i - 1) (by omega) (by omega)
    have e : i - 1 + 1 = i := by omega
    rw [e] at a
    by_cases d : i - 1 = p
    · rw [← d] at h2
      rw [ltR_congr a.1 h2] at hlt
      have b := a.2
      unfold ltR ltK at hlt b
      omega
    · have b := h3 (i - 1 - 1) (by omega) (by omega)
      rw [show i - 1 - 1 + 1 = i - 1 by omega] at b
      rw [ltR_congr a.1 b.1] at hlt
      exact hs (i - 1) (by omega) (by omega) hlt

theorem ins_rows {u r t : Sl} (h : ins u r t) {Q : Sl → Int → Prop} (hc : ∀ {s t : Sl} {i k : Int}, rowEq s i t k → Q t k → Q s i) (hr : Q r 0) (hu : ∀ i : Int, 0 ≤ i → i < u.len → Q u i) :
    ∀ i : Int, 0 ≤ i → i < t.len → Q t i := by
  obtain ⟨p, ⟨hl, hp, h1, h2, h3⟩, _⟩ := h
  intro i i0 i1
  rcases Int.lt_trichotomy i p with c | c | c
  · exact hc (h1 i i0 c) (hu i i0 (by omega))
  · subst c; exact hc h2 hr
  · have a := (h3 (i - 1) (by omega) (by omega)).1
    rw [show i - 1 + 1 = i by omega] at a
    exact hc a (hu (i - 1) (by omega) (by omega))

set_option maxHeartbeats 4000000 in

theorem rightAt_congr {two : Bool} {s t : Sl} {i k : Int} (h : rowEq s i t k) (g : rightAt two t k) : rightAt two s i := by
  unfold rightAt rightS at *
  rw [h.1, h.2.1, h.2.2.1]
  exact ⟨g.1, g.2.1, g.2.2.1, g.2.2.2.1, okF.of_same g.2.2.2.2 h.2.2.2⟩

/-- Where the rows go. -/
theorem ins_map {u r t : Sl} (h : ins u r t) : ∃ (p : Int) (f : Int → Int), (0 ≤ p ∧ p < t.len) ∧ t.len = u.len + 1 ∧ rowEq t p r 0 ∧
    (∀ k : Int, 0 ≤ k → k < u.len → (0 ≤ f k ∧ f k < t.len) ∧ rowEq t (f k) u k ∧ (p < f k → ltR r 0 u k) ∧ (f k < p → ¬ ltR r 0 u k)) ∧
    (∀ i : Int, 0 ≤ i → i < t.len → i = p ∨ ∃ k : Int, 0 ≤ k ∧ k < u.len ∧ f k = i) ∧ (∀ j k : Int, j < k ↔ f j < f k) := by
  obtain ⟨p, ⟨hl, hp, h1, h2, h3⟩, h4⟩ := h
  refine ⟨p, fun k => if k < p then k else k + 1, by omega, hl, h2, fun k k0 k1 => ?_, fun i i0 i1 => ?_, fun j k => ?_⟩
  · show (0 ≤ (if k < p then k else k + 1) ∧ (if k < p then k else k + 1) < t.len) ∧ rowEq t (if k < p then k else k + 1) u k ∧ (p < (if k < p then k else k + 1) → ltR r 0 u k) ∧ ((if k < p then k else k + 1) < p → ¬ ltR r 0 u k)
    by_cases c : k < p
    · rw [if_pos c]
      exact ⟨by omega, h1 k k0 c, fun h => by omega, fun _ => h4 k k0 c⟩
    · rw [if_neg c]
      have := h3 k (by omega) k1
      exact ⟨by omega, this.1, fun _ => this.2, fun h => by omega⟩
  · by_cases c : i < p
    · exact .inr ⟨i, i0, by omega, by show (if i < p then i else i + 1) = i; rw [if_pos c]⟩
    · by_cases d : i = p
      · exact .inl d
      · exact .inr ⟨i - 1, by omega, by omega, by show (if i - 1 < p then i - 1 else i - 1 + 1) = i; rw [if_neg (by omega)]; omega⟩
  · show j < k ↔ (if j < p then j else j + 1) < (if k < p then k else k + 1)
    split <;> split <;> omega

/-- What a row that is not seen changes: nothing. -/
theorem ins_cand {u r t : Sl} {known a : Int} (h : ins u r t) (hk : known < r.int 0 2 ∨ a < r.int 0 0) :
    (∀ k, candX u a known k → ∃ i, candX t a known i ∧ rowEq t i u k) ∧ (∀ i, candX t a known i → ∃ k, candX u a known k) := by
  obtain ⟨p, f, hp, hl, ep, hf, hi, hm⟩ := ins_map h
  have F : ∀ k, 0 ≤ k → k < u.len → u.int k 0 ≤ a → (inForce t known (f k) ↔ inForce u known k) := fun k k0 k1 ka => by
    obtain ⟨r1, r2, _⟩ := hf k k0 k1
    constructor
    · intro g
      refine ⟨⟨k0, k1⟩, by have := g.2.1; rw [r2.2.2.1] at this; exact this, fun j j0 j1 e0 e1 => ?_⟩
      obtain ⟨q1, q2, _⟩ := hf j (by omega) j1
      have := g.2.2 (f j) ((hm k j).1 j0) q1.2 (by rw [q2.1, r2.1, e0]) (by rw [q2.2.1, r2.2.1, e1])
      rw [q2.2.2.1] at this
      exact this
    · intro g
      refine ⟨r1, by rw [r2.2.2.1]; exact g.2.1, fun j j0 j1 e0 e1 => ?_⟩
      rcases hi j (by omega) j1 with c | ⟨l, l0, l1, c⟩
      · subst c
        rw [ep.1, r2.1] at e0
        rw [ep.2.2.1]
        omega
      · subst c
        obtain ⟨q1, q2, _⟩ := hf l l0 l1
        rw [q2.1, r2.1] at e0
        rw [q2.2.1, r2.2.1] at e1
        rw [q2.2.2.1]
        exact g.2.2 l ((hm k l).2 j0) l1 e0 e1
  have P : inForce t known p → t.int p 0 ≤ a → False := fun g ga => by
    have := g.2.1
    rw [ep.2.2.1] at this
    rw [ep.1] at ga
    omega
  have A : ∀ k, 0 ≤ k → k < u.len → (candX t a known (f k) ↔ candX u a known k) := fun k k0 k1 => by
    obtain ⟨r1, r2, _⟩ := hf k k0 k1
    constructor
    · intro g
      have ka : u.int k 0 ≤ a := by have := g.1.2; rw [r2.1] at this; exact this
      refine ⟨⟨(F k k0 k1 ka).1 g.1.1, ka⟩, fun j hj ja => ?_⟩
      obtain ⟨q1, q2, _⟩ := hf j hj.1.1 hj.1.2
      have := g.2 (f j) ((F j hj.1.1 hj.1.2 ja).2 hj) (by rw [q2.1]; exact ja)
      rw [q2.1, r2.1] at this
      exact this
    · intro g
      refine ⟨⟨(F k k0 k1 g.1.2).2 g.1.1, by rw [r2.1]; exact g.1.2⟩, fun j hj ja => ?_⟩
      rcases hi j hj.1.1 hj.1.2 with c | ⟨l, l0, l1, c⟩
      · subst c; exact (P hj ja).elim
      · subst c
        obtain ⟨q1, q2, _⟩ := hf l l0 l1
        rw [q2.1] at ja
        rw [q2.1, r2.1]
        exact g.2 l ((F l l0 l1 ja).1 hj) ja
  refine ⟨fun k g => ⟨f k, (A k g.1.1.1.1 g.1.1.1.2).2 g, (hf k g.1.1.1.1 g.1.1.1.2).2.1⟩, fun i g => ?_⟩
  rcases hi i g.1.1.1.1 g.1.1.1.2 with c | ⟨l, l0, l1, c⟩
  · subst c; exact (P g.1.1 g.1.2).elim
  · subst c; exact ⟨l, (A l l0 l1).1 g⟩

theorem rowEq_app_ge {a b : Sl} {j : Int} (h : 0 ≤ j) : rowEq (Sl.app a b) (a.len + j) b j := by
  refine rowEq_cells ?_
  funext q
  unfold Sl.app Sl.len
  have e1 : ¬ ((a.n : Int) + j).toNat < a.n := by omega
  have e2 : ((a.n : Int) + j).toNat - a.n = j.toNat := by omega
  simp only [e1, if_false, e2]

/-- A row put in at a place. -/
def putAt (d r : Sl) (i : Int) : Sl := Sl.app (Sl.app (Sl.part d 0 i) r) (Sl.part d i d.len)

theorem putAt_len {d r : Sl} {i : Int} (hr : r.len = 1) (h0 : 0 ≤ i) (h1 : i ≤ d.len) : (putAt d r i).len = d.len + 1 := by
  unfold putAt
  rw [len_app, len_app, len_part h0, len_part h1, hr]
  omega
theorem putAt_lt {d r : Sl} {i k : Int} (h0 : 0 ≤ i) (h1 : i ≤ d.len) (k0 : 0 ≤ k) (k1 : k < i) : rowEq (putAt d r i) k d k := by
  have e : (Sl.part d 0 i).len = i := by rw [len_part h0]; omega
  have n := len0 r
  refine rowEq_cells ?_
  unfold putAt
  rw [f_app_lt k0 (by rw [len_app, e]; omega), f_app_lt k0 (by rw [e]; exact k1), f_part0]
theorem putAt_at {d r : Sl} {i : Int} (hr : r.len = 1) (h0 : 0 ≤ i) (h1 : i ≤ d.len) : rowEq (putAt d r i) i r 0 := by
  have e : (Sl.part d 0 i).len = i := by rw [len_part h0]; omega
  have a := rowEq_app_ge (a := Sl.part d 0 i) (b := r) (j := 0) (Int.le_refl _)
  rw [e, Int.add_zero] at a
  refine rowEq.trans (rowEq_cells ?_) a
  unfold putAt
  rw [f_app_lt h0 (by rw [len_app, e, hr]; omega)]
theorem putAt_ge {d r : Sl} {i k : Int} (hr : r.len = 1) (h0 : 0 ≤ i) (h1 : i ≤ d.len) (k0 : i ≤ k) : rowEq (putAt d r i) (k + 1) d k := by
  have e : (Sl.part d 0 i).len = i := by rw [len_part h0]; omega
  have a := rowEq_app_ge (a := Sl.app (Sl.part d 0 i) r) (b := Sl.part d i d.len) (j := k - i) (by omega)
  rw [len_app, e, hr, show i + 1 + (k - i) = k + 1 by omega] at a
  have b := rowEq_part (t := d) (l := i) (h := d.len) (i := k - i) h0 (by omega)
  rw [show i + (k - i) = k by omega] at b
  exact a.trans b

theorem rowL_right {two : Bool} {a b k : Int} {nn dn : Bool} {nl dl : Sl} (h : rightS two a b k nn nl dn dl) : rightAt two (rowL a b k nn nl dn dl) 0 := h

def lrnB (y : ByteArray) (two : Bool) (s : Sl) (a b k : Int) (nn : Bool) (nl : Sl) (dn : Bool) (dl : Sl) (i : Int) (d : Sl) : Prop :=
  ((0 : Int) ≤ Sl.len (Sl.part s 0 i)) ∧ (Sl.len (Sl.part s 0 i) ≤ Sl.len d) ∧ ((0 : Int) < Sl.len (rowL a b k nn nl dn dl)) ∧ (((Sl.len d + Sl.len (rowL a b k nn nl dn dl)) * 88) ≤ 140737488355328) ∧
  (Small (putAt d (rowL a b k nn nl dn dl) (Sl.len (Sl.part s 0 i))) → ∃ (J : Int → Sl → Prop) (M : Int → Sl → Nat), J 0 (putAt d (rowL a b k nn nl dn dl) (Sl.len (Sl.part s 0 i))) ∧
    ∀ x : Int, Rng .i64 x → ∀ u : Sl, Ranged u [some .i64, some .i64, some .i64, none, none, none, none] → J x u →
      ((x < Sl.len (putAt d (rowL a b k nn nl dn dl) (Sl.len (Sl.part s 0 i))) → ((0 : Int) ≤ x) ∧ (x < Sl.len u) ∧ (Ranged (Sl.sub u x 4) [some .u16] → Ranged (Sl.sub u x 6) [some .u16] →
        p_copied (Sl.bool u x 3) (Sl.sub u x 4) (Sl.bool u x 5) (Sl.sub u x 6) ∧ ∀ (a' : Bool) (b' : Sl), Ranged b' [some .u16] → ∀ (c' : Bool) (d' : Sl), Ranged d' [some .u16] →
          q_copied (Sl.bool u x 3) (Sl.sub u x 4) (Sl.bool u x 5) (Sl.sub u x 6) a' b' c' d' → ((0 : Int) ≤ x) ∧ (x < Sl.len u) ∧ Rng .i64 (x + 1) ∧
            (J (x + 1) (Sl.upd u x 3 [.bool a', Sl.d b', .bool c', Sl.d d']) ∧ M (x + 1) (Sl.upd u x 3 [.bool a', Sl.d b', .bool c', Sl.d d']) < M x u))) ∧
      (¬ (x < Sl.len (putAt d (rowL a b k nn nl dn dl) (Sl.len (Sl.part s 0 i)))) → q_Learn y two s a b k nn nl dn dl y two u 0 ∧ True)))

theorem lrnB_ok {y : ByteArray} {two : Bool} {s : Sl} {a b k : Int} {nn dn : Bool} {nl dl : Sl} {i : Int} {d : Sl} (hv : validT y two s) (hr : rightS two a b k nn nl dn dl) (h4 : s.len ≠ 400) (i0 : 0 ≤ i) (i1 : i ≤ s.len)
    (hlo : ∀ l : Int, 0 ≤ l → l < i → ¬ ltR (rowL a b k nn nl dn dl) 0 s l) (hhi : ∀ l : Int, i ≤ l → l < s.len → ltR (rowL a b k nn nl dn dl) 0 s l) (hdl : d.len = s.len) (hd : ∀ l : Int, 0 ≤ l → l < s.len → rowEq d l s l) : lrnB y two s a b k nn nl dn dl i d := by
  have ep : (Sl.part s 0 i).len = i := by rw [len_part i0]; omega
  have er : (rowL a b k nn nl dn dl).len = 1 := rfl
  have s4 := hv.2.1
  unfold lrnB
  rw [ep]
  have el := putAt_len (d := d) er i0 (by omega)
  have m1 : ∀ l : Int, 0 ≤ l → l < i → rowEq (putAt d (rowL a b k nn nl dn dl) i) l s l := fun l l0 l1 => (putAt_lt i0 (by omega) l0 l1).trans (hd l l0 (by omega))
  have m2 := putAt_at (d := d) er i0 (by omega)
  have m3 : ∀ l : Int, i ≤ l → l < s.len → rowEq (putAt d (rowL a b k nn nl dn dl) i) (l + 1) s l := fun l l0 l1 => (putAt_ge er i0 (by omega) l0).trans (hd l (by omega) l1)
  have rt : ∀ l : Int, 0 ≤ l → l < (putAt d (rowL a b k nn nl dn dl) i).len → rightAt two (putAt d (rowL a b k nn nl dn dl) i) l := fun l l0 l1 => by
    rcases Int.lt_trichotomy l i with c | c | c
    · exact rightAt_congr (m1 l l0 c) (hv.2.2.2 l l0 (by omega))
    · subst c; exact rightAt_congr m2 (rowL_right hr)
    · have q := m3 (l - 1) (by omega) (by omega)
      rw [show l - 1 + 1 = l by omega] at q
      exact rightAt_congr q (hv.2.2.2 (l - 1) (by omega) (by omega))
  generalize hE : putAt d (rowL a b k nn nl dn dl) i = E at el m1 m2 m3 rt ⊢
  refine ⟨i0, by omega, by omega, by omega, fun _ => ⟨fun x u => (0 ≤ x ∧ x ≤ E.len) ∧ u.len = E.len ∧ ∀ l : Int, 0 ≤ l → l < E.len → rowEq u l E l, fun x _ => (E.len - x).toNat, ⟨⟨Int.le_refl _, len0 E⟩, rfl, fun l _ _ => rowEq.refl _ _⟩, fun x rx u ru hJ => ?_⟩⟩
  obtain ⟨⟨x0, x1⟩, hl, hrow⟩ := hJ
  refine ⟨fun hx => ⟨x0, by omega, fun _ _ => ?_⟩, fun hx => ⟨⟨fun hn => absurd ⟨hv, hr⟩ hn, fun _ => ⟨fun h => absurd h h4, fun _ => ⟨rfl, rfl, ⟨i, ⟨by omega, ⟨i0, i1⟩, fun l l0 l1 => (hrow l l0 (by omega)).trans (m1 l l0 l1), (hrow i i0 (by omega)).trans m2, fun l l0 l1 => ⟨(hrow (l + 1) (by omega) (by omega)).trans (m3 l l0 l1), hhi l l0 l1⟩⟩, hlo⟩, rfl⟩⟩⟩, trivial⟩⟩
  have r := hrow x x0 hx
  have ok : okF (E.bool x 3) (E.sub x 4) (E.bool x 5) (E.sub x 6) := (rt x x0 hx).2.2.2.2
  refine ⟨SameF.lim r.2.2.2 ok, fun a' b' rb c' d' rd hq => ⟨x0, by omega, by rw [rng64]; omega, ⟨⟨by omega, by omega⟩, hl, fun l l0 l1 => ?_⟩, by show (E.len - (x + 1)).toNat < (E.len - x).toNat; omega⟩⟩
  by_cases e : l = x
  · subst e
    exact rowEq_upd (SameF.trans hq r.2.2.2) r
  · exact (rowEq_cells (f_upd_ne x0 l0 e)).trans (hrow l l0 l1)

theorem ord_gt {a b k a' b' k' x : Int} (h : ordK a b k a' b' k' x) : x > 0 ↔ ltK a' b' k' a b k := by
  unfold ordK ltK at *
  omega

theorem nilapp_len (s : Sl) : (Sl.app (Sl.lit []) s).len = s.len := by
  rw [len_app]
  show (0 : Int) + s.len = s.len
  omega
theorem nilapp_row (s : Sl) {l : Int} (l0 : 0 ≤ l) : rowEq (Sl.app (Sl.lit []) s) l s l := by
  have := rowEq_app_ge (a := Sl.lit []) (b := s) l0
  rwa [show (Sl.lit []).len + l = l by show (0 : Int) + l = l; omega] at this

theorem Learn_ok : V_Learn := by
  intro y two s rs a ra b rb k rk nn nl rn dn dl rd hp
  simp only [Bool.decide_eq_true]
  refine ⟨hp, fun v hv => ⟨fun hn => ⟨⟨fun _ => ⟨⟨rfl, by decide, rfl⟩, rfl⟩, fun h => absurd (hv.2 h.1) hn⟩, trivial⟩, fun hn => ⟨trivial, fun w hw => ⟨fun hn2 => ⟨⟨fun _ => ⟨⟨rfl, by decide, rfl⟩, rfl⟩, fun h => absurd (hw.2 h.2) hn2⟩, trivial⟩, fun hn2 => ?_⟩⟩⟩⟩
  have hv' : validT y two s := hv.1 (Classical.not_not.1 hn)
  have hr : rightS two a b k nn nl dn dl := hw.1 (Classical.not_not.1 hn2)
  refine fun _ => ⟨fun h4 => ⟨⟨fun h => absurd ⟨hv', hr⟩ h, fun _ => ⟨fun _ => ⟨⟨rfl, by decide, rfl⟩, rfl⟩, fun h => absurd h4 h⟩⟩, trivial⟩, fun h4 _ => ?_⟩
  have s0 := len0 s
  have s4 := hv'.2.1
  have mo : ∀ k' l : Int, 0 ≤ k' → k' ≤ l → l < s.len → ltR (rowL a b k nn nl dn dl) 0 s k' → ltR (rowL a b k nn nl dn dl) 0 s l := fun k' l k0 kl l1 h => by
    have := sorted_lt hv'.2.2.1 k0 kl l1
    unfold ltR ltK at *
    omega
  refine ⟨fun i j => bs s.len (fun l => ltR (rowL a b k nn nl dn dl) 0 s l) i j, fun i j => (j - i).toNat, bs_start s0, fun i ri j rj hJ => ?_⟩
  have hJ : bs s.len (fun l => ltR (rowL a b k nn nl dn dl) 0 s l) i j := hJ
  have b1 := hJ.1
  refine ⟨fun hi => ?_, fun hi => ?_⟩
  · have em := mid_eq b1.1 hi (by omega)
    have er := mid_rng b1.1 hi (by omega)
    refine ⟨by rw [rng64]; omega, by decide, er, ?_⟩
    rw [em]
    refine ⟨by omega, by omega, fun _ _ _ _ _ => ⟨trivial, fun x rx hq => ⟨fun hp => ⟨by rw [rng64]; omega, bs_up mo hJ (by omega) (by omega) (fun h => hp ((ord_gt hq).2 h)), ?_⟩, fun hp => ⟨bs_down mo hJ (by omega) (by omega) ((ord_gt hq).1 (Classical.not_not.1 hp)), ?_⟩⟩⟩⟩
    · show (j - ((i + j) / 2 + 1)).toNat < (j - i).toNat; omega
    · show ((i + j) / 2 - i).toNat < (j - i).toNat; omega
  · have e : j = i := by omega
    subst e
    have core : ∀ d : Sl, d.len = s.len → (∀ l : Int, 0 ≤ l → l < s.len → rowEq d l s l) → lrnB y two s a b k nn nl dn dl j d := fun d h1 h2 => lrnB_ok hv' hr h4 b1.1 b1.2.2 hJ.2.1 hJ.2.2 h1 h2
    have c1 : s.len ≤ 0 → lrnB y two s a b k nn nl dn dl j Sl.nil := fun h => core Sl.nil (by rw [len_nil]; omega) (fun l l0 l1 => by omega)
    have c2 : lrnB y two s a b k nn nl dn dl j (Sl.app (Sl.lit []) s) := core _ (nilapp_len s) (fun l l0 _ => nilapp_row s l0)
    have z : (((Sl.lit []).len + s.len) * 88) ≤ 140737488355328 := by
      show ((0 : Int) + s.len) * 88 ≤ _
      omega
    refine ⟨by decide, b1.1, b1.2.2, fun _ => ⟨fun c => ⟨fun _ h => c1 h, fun _ => ⟨z, c2⟩⟩, fun c => ⟨fun _ h => c1 h, fun _ => ⟨z, c2⟩⟩⟩⟩

end Go.Sx.N
