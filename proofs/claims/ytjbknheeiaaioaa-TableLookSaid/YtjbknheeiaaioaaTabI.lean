/-
  What putting a row in makes of a table. Conditions: none.
-/
import Derived.Test.YtjbknheeiaaioaaTabFe
set_option linter.unusedVariables false
set_option linter.unusedSimpArgs false
namespace Go.Sx.N

theorem rightAt_congr {two : Bool} {s t : Sl} {i k : Int} (h : rowEq s i t k) (g : rightAt two t k) : rightAt two s i := by
  unfold rightAt rightS at *
  rw [h.1, h.2.1, h.2.2.1]
  exact ⟨g.1, g.2.1, g.2.2.1, g.2.2.2.1, okF.of_same g.2.2.2.2 h.2.2.2⟩

theorem ins_valid {name : ByteArray} {two : Bool} {u r t : Sl} (hv : validT name two u) (hr : rightAt two r 0) (hl : u.len < 400) (h : ins u r t) : validT name two t :=
  ⟨hv.1, by have := ins_len h; omega, ins_sorted hv.2.2.1 h, ins_rows (Q := rightAt two) h rightAt_congr hr hv.2.2.2⟩

theorem ins_det {u r t u' r' t' : Sl} (h : ins u r t) (g : ins u' r' t') (e : rowsEq u u') (er : rowEq r 0 r' 0) : rowsEq t t' := by
  obtain ⟨p, ⟨hl, hp, h1, h2, h3⟩, h4⟩ := h
  obtain ⟨q, ⟨gl, gq, g1, g2, g3⟩, g4⟩ := g
  have el := e.1
  have lt : ∀ k, 0 ≤ k → k < u.len → (ltR r 0 u k ↔ ltR r' 0 u' k) := fun k k0 k1 => ltR_congr er (e.2 k k0 k1)
  have pq : p = q := by
    rcases Int.lt_trichotomy p q with c | c | c
    · exact absurd ((lt p hp.1 (by omega)).1 (h3 p (by omega) (by omega)).2) (g4 p hp.1 c)
    · exact c
    · exact absurd ((lt q gq.1 (by omega)).2 (g3 q (by omega) (by omega)).2) (h4 q gq.1 c)
  subst pq
  refine ⟨by omega, fun i i0 i1 => ?_⟩
  rcases Int.lt_trichotomy i p with c | c | c
  · exact rowEq.trans (h1 i i0 c) (rowEq.trans (e.2 i i0 (by omega)) (rowEq.symm (g1 i i0 c)))
  · subst c; exact rowEq.trans h2 (rowEq.trans er (rowEq.symm g2))
  · have a := (h3 (i - 1) (by omega) (by omega)).1
    have b := (g3 (i - 1) (by omega) (by omega)).1
    rw [show i - 1 + 1 = i by omega] at a b
    exact a.trans ((e.2 (i - 1) (by omega) (by omega)).trans b.symm)

theorem isOf_det {s r r' : Sl} {i : Int} {two : Bool} (h : isOf s i two r) (g : isOf s i two r') : rowEq r 0 r' 0 := by
  obtain ⟨⟨e0, e1, e2, e3⟩, n1, d1⟩ := h
  obtain ⟨⟨f0, f1, f2, f3⟩, n2, d2⟩ := g
  refine ⟨by rw [e0, f0], by rw [e1, f1], by rw [e2, f2], IsQ.same e3.1 f3.1 (ranged16 n1) (ranged16 d1) (ranged16 n2) (ranged16 d2)⟩

theorem rowsEq_nil {u t : Sl} (h : u.len = 0) (g : t.len = 0) : rowsEq u t := ⟨by rw [h, g], fun i i0 i1 => by omega⟩

theorem Bt_det {s : Sl} {two : Bool} : ∀ {m : Nat} {u t : Sl}, Bt s two m u → Bt s two m t → rowsEq u t := by
  intro m
  induction m with
  | zero =>
    intro u t h g
    cases h with
    | nil h => cases g with
      | nil g => exact rowsEq_nil h g
  | succ m ih =>
    intro u t h g
    cases h with
    | step h1 h2 h3 => cases g with
      | step g1 g2 g3 => exact ins_det h3 g3 (ih h1 g1) (isOf_det h2 g2)

theorem ins_last {u r t : Sl} (h : ins u r t) (hn : ∀ k : Int, 0 ≤ k → k < u.len → ¬ ltR r 0 u k) : t.len = u.len + 1 ∧ (∀ k : Int, 0 ≤ k → k < u.len → rowEq t k u k) ∧ rowEq t u.len r 0 := by
  obtain ⟨p, ⟨hl, hp, h1, h2, h3⟩, h4⟩ := h
  have : p = u.len := by
    by_cases c : p < u.len
    · exact absurd (h3 p (by omega) c).2 (hn p hp.1 c)
    · omega
  subst this
  exact ⟨hl, h1, h2⟩

/-- Where the rows go. -/
theorem ins_map {u r t : Sl} (h : ins u r t) : ∃ (p : Int) (f : Int → Int), (0 ≤ p ∧ p < t.len) ∧ t.len = u.len + 1 ∧ rowEq t p r 0 ∧
    (∀ k : Int, 0 ≤ k → k < u.len → (0 ≤ f k ∧ f k < t.len) ∧ rowEq t (f k) u k ∧ (p < f k → ltR r 0 u k) ∧ (f k < p → ¬ ltR r 0 u k)) ∧
    (∀ i : Int, 0 ≤ i → i < t.len → i = p ∨ ∃ k : Int, 0 ≤ k ∧ k < u.len ∧ f k = i) ∧ (∀ j k : Int, j < k ↔ f j < f k) := by
  obtain ⟨p, ⟨hl, hp, h1, h2, h3⟩, h4⟩ := h
  refine ⟨p, fun k => if k < p then k else k + 1, by omega, hl, h2, fun k k0 k1 => ?_, fun i i0 i1 => ?_, fun j k => ?_⟩
  · show (0 ≤ (if k < p then k else k + 1) ∧ (if k < p then k else k + 1) < t.len) ∧ rowEq t (if k < p then k else k + 1) u k ∧ (p < (if k < p then k else k + 1) → ltR r 0 u k) ∧ ((if k < p then k else k + 1) < p → ¬ ltR r 0 u k)
    by_cases c : k < p
    · rw [if_pos c]
      exact ⟨by omega, h1 k k0 c, fun h => by omega, fun _ => h4 k k0 c⟩
    · rw [if_neg c]
      have := h3 k (by omega) k1
      exact ⟨by omega, this.1, fun _ => this.2, fun h => by omega⟩
  · by_cases c : i < p
    · exact .inr ⟨i, i0, by omega, by show (if i < p then i else i + 1) = i; rw [if_pos c]⟩
    · by_cases d : i = p
      · exact .inl d
      · exact .inr ⟨i - 1, by omega, by omega, by show (if i - 1 < p then i - 1 else i - 1 + 1) = i; rw [if_neg (by omega)]; omega⟩
  · show j < k ↔ (if j < p then j else j + 1) < (if k < p then k else k + 1)
    split <;> split <;> omega

/-- What a row that is not seen changes: nothing. -/
theorem ins_cand {u r t : Sl} {known a : Int} (h : ins u r t) (hk : known < r.int 0 2 ∨ a < r.int 0 0) :
    (∀ k, candX u a known k → ∃ i, candX t a known i ∧ rowEq t i u k) ∧ (∀ i, candX t a known i → ∃ k, candX u a known k) := by
  obtain ⟨p, f, hp, hl, ep, hf, hi, hm⟩ := ins_map h
  have F : ∀ k, 0 ≤ k → k < u.len → u.int k 0 ≤ a → (inForce t known (f k) ↔ inForce u known k) := fun k k0 k1 ka => by
    obtain ⟨r1, r2, _⟩ := hf k k0 k1
    constructor
    · intro g
      refine ⟨⟨k0, k1⟩, by have := g.2.1; rw [r2.2.2.1] at this; exact this, fun j j0 j1 e0 e1 => ?_⟩
      obtain ⟨q1, q2, _⟩ := hf j (by omega) j1
      have := g.2.2 (f j) ((hm k j).1 j0) q1.2 (by rw [q2.1, r2.1, e0]) (by rw [q2.2.1, r2.2.1, e1])
      rw [q2.2.2.1] at this
      exact this
    · intro g
      refine ⟨r1, by rw [r2.2.2.1]; exact g.2.1, fun j j0 j1 e0 e1 => ?_⟩
      rcases hi j (by omega) j1 with c | ⟨l, l0, l1, c⟩
      · subst c
        rw [ep.1, r2.1] at e0
        rw [ep.2.2.1]
        omega
      · subst c
        obtain ⟨q1, q2, _⟩ := hf l l0 l1
        rw [q2.1, r2.1] at e0
        rw [q2.2.1, r2.2.1] at e1
        rw [q2.2.2.1]
        exact g.2.2 l ((hm k l).2 j0) l1 e0 e1
  have P : inForce t known p → t.int p 0 ≤ a → False := fun g ga => by
    have := g.2.1
    rw [ep.2.2.1] at this
    rw [ep.1] at ga
    omega
  have A : ∀ k, 0 ≤ k → k < u.len → (candX t a known (f k) ↔ candX u a known k) := fun k k0 k1 => by
    obtain ⟨r1, r2, _⟩ := hf k k0 k1
    constructor
    · intro g
      have ka : u.int k 0 ≤ a := by have := g.1.2; rw [r2.1] at this; exact this
      refine ⟨⟨(F k k0 k1 ka).1 g.1.1, ka⟩, fun j hj ja => ?_⟩
      obtain ⟨q1, q2, _⟩ := hf j hj.1.1 hj.1.2
      have := g.2 (f j) ((F j hj.1.1 hj.1.2 ja).2 hj) (by rw [q2.1]; exact ja)
      rw [q2.1, r2.1] at this
      exact this
    · intro g
      refine ⟨⟨(F k k0 k1 g.1.2).2 g.1.1, by rw [r2.1]; exact g.1.2⟩, fun j hj ja => ?_⟩
      rcases hi j hj.1.1 hj.1.2 with c | ⟨l, l0, l1, c⟩
      · subst c; exact (P hj ja).elim
      · subst c
        obtain ⟨q1, q2, _⟩ := hf l l0 l1
        rw [q2.1] at ja
        rw [q2.1, r2.1]
        exact g.2 l ((F l l0 l1 ja).1 hj) ja
  refine ⟨fun k g => ⟨f k, (A k g.1.1.1.1 g.1.1.1.2).2 g, (hf k g.1.1.1.1 g.1.1.1.2).2.1⟩, fun i g => ?_⟩
  rcases hi i g.1.1.1.1 g.1.1.1.2 with c | ⟨l, l0, l1, c⟩
  · subst c; exact (P g.1.1 g.1.2).elim
  · subst c; exact ⟨l, (A l l0 l1).1 g⟩

/-- A row that is seen is the one in force for its keys .. -/
theorem known_new {u r t : Sl} {known : Int} (h : ins u r t) (hk : r.int 0 2 ≤ known) (hn : ∀ j : Int, 0 ≤ j → j < u.len → hitT u (r.int 0 0) (r.int 0 1) known j → u.int j 2 ≤ r.int 0 2) : ∃ i, candX t (r.int 0 0) known i ∧ rowEq t i r 0 := by
  obtain ⟨p, f, hp, hl, ep, hf, hi, hm⟩ := ins_map h
  refine ⟨p, ⟨⟨⟨hp, by rw [ep.2.2.1]; exact hk, fun j j0 j1 e0 e1 => ?_⟩, by rw [ep.1]; exact Int.le_refl _⟩, fun j _ ja => by rw [ep.1]; exact ja⟩, ep⟩
  rcases hi j (by omega) j1 with c | ⟨l, l0, l1, c⟩
  · omega
  · subst c
    obtain ⟨q1, q2, q3, _⟩ := hf l l0 l1
    have := q3 j0
    rw [q2.1, ep.1] at e0
    rw [q2.2.1, ep.2.1] at e1
    rw [q2.2.2.1]
    have w := hn l l0 l1
    unfold hitT at w
    unfold ltR ltK at this
    omega

/-- .. unless a later one is. -/
theorem known_old {u r t : Sl} {known k : Int} (h : ins u r t) (hk : inForce u known k) (e0 : u.int k 0 = r.int 0 0) (e1 : u.int k 1 = r.int 0 1) (hlt : r.int 0 2 < u.int k 2) : ∃ i, candX t (r.int 0 0) known i ∧ rowEq t i u k := by
  obtain ⟨p, f, hp, hl, ep, hf, hi, hm⟩ := ins_map h
  obtain ⟨r1, r2, r3, r4⟩ := hf k hk.1.1 hk.1.2
  refine ⟨f k, ⟨⟨⟨r1, by rw [r2.2.2.1]; exact hk.2.1, fun j j0 j1 g0 g1 => ?_⟩, by rw [r2.1, e0]; exact Int.le_refl _⟩, fun j _ ja => by rw [r2.1, e0]; exact ja⟩, r2⟩
  rcases hi j (by omega) j1 with c | ⟨l, l0, l1, c⟩
  · subst c
    exact absurd (by unfold ltR ltK; omega) (r4 j0)
  · subst c
    obtain ⟨q1, q2, _⟩ := hf l l0 l1
    rw [q2.1, r2.1] at g0
    rw [q2.2.1, r2.2.1] at g1
    rw [q2.2.2.1]
    exact hk.2.2 l ((hm k l).2 j0) l1 g0 g1

theorem zeroF_same {a c a' c' : Bool} {b d b' d' : Sl} (h : zeroF a b c d) (g : zeroF a' b' c' d') : SameF a b c d a' b' c' d' := by
  obtain ⟨rfl, h2, rfl, h4⟩ := h
  obtain ⟨rfl, g2, rfl, g4⟩ := g
  exact ⟨⟨rfl, by rw [h2, g2], fun i i0 i1 => by omega⟩, rfl, by rw [h4, g4], fun i i0 i1 => by omega⟩

theorem look_same {ok ok' : Prop} {C C' : Int → Prop} {t v : Sl} {a c a' c' : Bool} {b d b' d' : Sl} {e e' : Int} (h : lookR ok C t a b c d e) (h' : lookR ok' C' v a' b' c' d' e') (ho : ok ↔ ok')
    (m1 : ∀ k, C k → ∃ i, C' i ∧ rowEq v i t k) (m2 : ∀ i, C' i → ∃ k, C k) : e = e' ∧ SameF a b c d a' b' c' d' := by
  by_cases k : ok
  · by_cases x : ∃ k, C k
    · obtain ⟨k', hk⟩ := x
      obtain ⟨i, hi, r⟩ := m1 k' hk
      obtain ⟨r1, e1⟩ := look_at h k hk
      obtain ⟨r2, e2⟩ := look_at h' (ho.1 k) hi
      exact ⟨by rw [e1, e2], SameF.trans (SameF.symm r1) (SameF.trans (SameF.symm r.2.2.2) r2)⟩
    · obtain ⟨z1, e1⟩ := look_no h k fun j hj => x ⟨j, hj⟩
      obtain ⟨z2, e2⟩ := look_no h' (ho.1 k) fun j hj => x (m2 j hj)
      exact ⟨by rw [e1, e2], zeroF_same z1 z2⟩
  · obtain ⟨z1, e1⟩ := h.1 k
    obtain ⟨z2, e2⟩ := h'.1 fun g => k (ho.2 g)
    exact ⟨by rw [e1, e2], zeroF_same z1 z2⟩

/-- A table with a row that is not right is not valid. -/
theorem not_valid {name : ByteArray} {two : Bool} {s : Sl} {i : Int} (i0 : 0 ≤ i) (i1 : i < s.len) (h : ¬ rightAt two s i) : ¬ validT name two s := fun g => h (g.2.2.2 i i0 i1)
/-- A table whose last row is less than its first one is not valid. -/
theorem not_sorted {name : ByteArray} {two : Bool} {s : Sl} {i j : Int} (i0 : 0 ≤ i) (ij : i ≤ j) (j1 : j < s.len) (h : s.int j 0 < s.int i 0) : ¬ validT name two s := fun g => sorted_lt g.2.2.1 i0 ij j1 (by unfold ltR ltK; omega)

end Go.Sx.N
