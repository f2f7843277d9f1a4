/-
  The reference's changes of a ledger. Conditions: none.
-/
import Derived.Test.YtdhjdigfoohofaaLedF
set_option linter.unusedVariables false
set_option linter.unusedSimpArgs false
namespace Go.Sx.N

theorem follow_app {st n : Int} {p q r : Sl} (hr : behind p q r) (d0 : Int) : followS st n r d0 ↔ followS st n p d0 ∧ followS st n q (if 0 < p.len then p.int (p.len - 1) 0 else d0) := by
  obtain ⟨hl, ha, hb⟩ := hr
  have p0 := len0 p
  have q0 := len0 q
  have fa : ∀ i : Int, 0 ≤ i → i < p.len → (okAt st n r d0 i ↔ okAt st n p d0 i) := fun i i0 i1 => by
    obtain ⟨a0, a1, a2, a3⟩ := ha i i0 i1
    have pv : prev r d0 i = prev p d0 i := by
      unfold prev
      split
      · rfl
      · exact (ha (i - 1) (by omega) (by omega)).1
    unfold okAt fitAt
    rw [a0, a1, a2, a3, pv]
  have fb : ∀ i : Int, 0 ≤ i → i < q.len → (okAt st n r d0 (p.len + i) ↔ okAt st n q (if 0 < p.len then p.int (p.len - 1) 0 else d0) i) := fun i i0 i1 => by
    obtain ⟨a0, a1, a2, a3⟩ := hb i i0 i1
    have pv : prev r d0 (p.len + i) = prev q (if 0 < p.len then p.int (p.len - 1) 0 else d0) i := by
      unfold prev
      by_cases e : i = 0
      · subst e
        rw [if_pos rfl, Int.add_zero]
        by_cases ep : 0 < p.len
        · rw [if_neg (by omega), if_pos ep]
          exact (ha (p.len - 1) (by omega) (by omega)).1
        · rw [if_pos (by omega), if_neg ep]
      · rw [if_neg (by omega), if_neg e, show p.len + i - 1 = p.len + (i - 1) by omega]
        exact (hb (i - 1) (by omega) (by omega)).1
    unfold okAt fitAt
    rw [a0, a1, a2, a3, pv]
  constructor
  · intro h
    exact ⟨fun i i0 i1 => (fa i i0 i1).1 (h i i0 (by omega)), fun i i0 i1 => (fb i i0 i1).1 (h (p.len + i) (by omega) (by omega))⟩
  · rintro ⟨h1, h2⟩ i i0 i1
    by_cases e : i < p.len
    · exact (fa i i0 e).2 (h1 i i0 e)
    · have := (fb (i - p.len) (by omega) (by omega)).2 (h2 (i - p.len) (by omega) (by omega))
      rwa [show p.len + (i - p.len) = i by omega] at this

theorem rPost_ok : V_rPost := by
  intro st _ d p q hp
  obtain ⟨p1, q1⟩ := hp
  have p0 := len0 p
  have q0 := len0 q
  have e0 : (Sl.lit []).len = 0 := rfl
  have e1 : (Sl.app (Sl.lit []) p).len = p.len := L.len_nilapp p
  obtain ⟨r, hr⟩ : ∃ r, r = Sl.app (Sl.app (Sl.lit []) p) q := ⟨_, rfl⟩
  have hb : behind p q r := by
    rw [hr]
    refine ⟨by rw [len_app, e1], fun i i0 i1 => ?_, fun i i0 i1 => ?_⟩
    · have lt : ∀ j, (Sl.app (Sl.app (Sl.lit []) p) q).int i j = p.int i j := fun j => by rw [int_app_lt (a := Sl.app (Sl.lit []) p) i0 (by rw [e1]; exact i1), L.int_nilapp i0]
      exact ⟨lt 0, lt 1, lt 2, lt 3⟩
    · have ge : ∀ j, (Sl.app (Sl.app (Sl.lit []) p) q).int (p.len + i) j = q.int i j := fun j => by rw [int_app_ge (a := Sl.app (Sl.lit []) p) (by rw [e1]; omega), e1, show p.len + i - p.len = i by omega]
      exact ⟨ge 0, ge 1, ge 2, ge 3⟩
  rw [← hr]
  have bad : ¬ postOk st d p q → q_rPost st d p q 0 Sl.nil Sl.nil 2 ∧ True := fun h => ⟨⟨fun _ => ⟨rfl, rfl, rfl, rfl⟩, fun k => absurd k h⟩, trivial⟩
  refine ⟨by omega, by rw [e1]; omega, trivial, fun v hv => ?_⟩
  simp only [Bool.decide_eq_true] at hv ⊢
  refine ⟨fun h => bad fun k => h (hv.2 k.1), fun h => ?_⟩
  have k1 := hv.1 (Classical.not_not.1 h)
  refine ⟨⟨k1.1.1, k1.1.2.1, k1.1.2.2.1⟩, fun w hw => ⟨fun g => bad fun k => g (hw.2 ((follow_app hb 0).2 ⟨k1.2.2.2, k.2⟩)), fun g _ => ?_⟩⟩
  have k2 : postOk st d p q := ⟨k1, ((follow_app hb 0).1 (hw.1 (Classical.not_not.1 g))).2⟩
  have hl := hb.1
  exact ⟨fun hgt => ⟨⟨fun k => absurd k2 k, fun _ => ⟨fun _ => ⟨rfl, rfl, rfl, rfl⟩, fun k => by omega⟩⟩, trivial⟩, fun hle => ⟨⟨fun k => absurd k2 k, fun _ => ⟨fun k => by omega, fun _ => ⟨rfl, rfl, ⟨rfl, fun _ _ _ => rfl⟩, hb⟩⟩⟩, trivial⟩⟩


theorem rLearn_ok : V_rLearn := by
  intro st _ d p m _ due _ _
  simp only [Bool.decide_eq_true]
  have d0 := len0 d
  have bad : ¬ learnOk st d p m due → q_rLearn st d p m due 0 Sl.nil Sl.nil 2 ∧ True := fun h => ⟨⟨fun _ => ⟨rfl, rfl, rfl, rfl⟩, fun k => absurd k h⟩, trivial⟩
  have many : learnOk st d p m due → learnMany st d m → q_rLearn st d p m due 0 Sl.nil Sl.nil 5 ∧ True := fun h hm => ⟨⟨fun k => absurd h k, fun _ => ⟨fun _ => ⟨rfl, rfl, rfl, rfl⟩, fun k => absurd hm k⟩⟩, trivial⟩
  have good : ∀ {d' : Sl}, learnOk st d p m due → ¬ learnMany st d m → learnt st d p m due st d' p → q_rLearn st d p m due st d' p 0 ∧ True := fun h hm hl => ⟨⟨fun k => absurd h k, fun _ => ⟨fun k => absurd k hm, fun _ => ⟨rfl, hl⟩⟩⟩, trivial⟩
  have pp : eqPosts p p := ⟨rfl, fun _ _ _ => ⟨rfl, rfl, rfl, rfl⟩⟩
  refine ⟨trivial, fun v hv => ⟨fun h => bad fun k => h (hv.2 k.1), fun h => ?_⟩⟩
  have hv := hv.1 (Classical.not_not.1 h)
  have hb := hv.1
  refine ⟨fun h => bad fun k => by have := k.2.1; omega, fun h1 => ⟨fun h => bad fun k => by have := k.2.2.1; omega, fun h2 => ⟨⟨hb.1, hb.2.1, hb.2.2.1⟩, fun w hw => ⟨fun hw1 => ?_, fun hw1 => ?_⟩⟩⟩⟩
  · obtain ⟨a, b⟩ := hw.1 hw1
    have hok : learnOk st d p m due := ⟨hv, by omega, by omega, a, by omega⟩
    have el : (Sl.app (Sl.lit []) d).len = d.len := L.len_nilapp d
    refine ⟨by show ((0 : Int) + d.len) * 8 ≤ _; omega, by rw [rng64]; omega, by omega, by rw [el]; omega, good hok (fun k => by have := k.1; omega) ⟨rfl, pp, by rw [len_upd, el]; unfold imax; split <;> omega, fun i i0 i1 => ?_⟩⟩
    rw [int_upd (by omega) i0, L.int_nilapp i0]
  · refine fun _ => ⟨by rw [rng64]; omega, fun hne => bad fun k => ?_, fun he _ => ?_⟩
    · obtain ⟨_, _, _, k1, k2⟩ := k
      exact hw1 (hw.2 ⟨k1, by omega⟩)
    have he := Classical.not_not.1 he
    have hok : learnOk st d p m due := ⟨hv, by omega, by omega, by omega, by omega⟩
    refine ⟨fun h3 => many hok ⟨he, .inl (by omega)⟩, fun h3 => ⟨fun h4 => many hok ⟨he, .inr h4⟩, fun h4 => ?_⟩⟩
    have el : (Sl.app (Sl.lit []) d).len = d.len := L.len_nilapp d
    have l1 : (Sl.lit [[D.int due]]).len = 1 := rfl
    have core : ((Sl.lit []).len + d.len) * 8 ≤ 140737488355328 ∧ ((Sl.app (Sl.lit []) d).len + (Sl.lit [[D.int due]]).len) * 8 ≤ 140737488355328 ∧ q_rLearn st d p m due st (Sl.app (Sl.app (Sl.lit []) d) (Sl.lit [[D.int due]])) p 0 ∧ True := by
      refine ⟨by show ((0 : Int) + d.len) * 8 ≤ _; omega, by rw [el, l1]; omega, good hok (fun k => by rcases k.2 with k | k <;> omega) ⟨rfl, pp, by rw [len_app, el, l1]; unfold imax; split <;> omega, fun i i0 i1 => ?_⟩⟩
      by_cases c : i < d.len
      · rw [int_app_lt i0 (by rw [el]; exact c), L.int_nilapp i0, if_neg (by omega)]
      · rw [len_app, el, l1] at i1
        have ei : i = d.len := by omega
        rw [int_app_ge (by rw [el]; omega), el, if_pos (by omega), ei, Int.sub_self]
        rfl
    exact ⟨⟨core, core⟩, core⟩

end Go.Sx.N
