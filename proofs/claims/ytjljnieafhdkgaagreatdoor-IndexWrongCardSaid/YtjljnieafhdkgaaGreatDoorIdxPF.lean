/-
  The condition of IndexWrong. Conditions: none.
-/
import Derived.Test.YtjljnieafhdkgaaGreatDoorNumVWWrong
import Derived.Test.YtjljnieafhdkgaaGreatDoorIdxM
set_option linter.unusedVariables false
set_option linter.unusedSimpArgs false
namespace Go.Sx.N

theorem not_okF {a c : Bool} {b : Sl} : ¬ okF a b c Sl.nil := fun ⟨⟨q, h⟩, _⟩ => by
  have e : vl Sl.nil = (q.den : Int) := h.2.2.2.2
  have : vl Sl.nil = 0 := rfl
  have := q.den_pos
  omega

theorem ten {a0 a1 a2 a3 a4 a5 a6 a7 a8 a9 : Int} (h0 : a0 = 2) (h1 : a1 = 2) (h2 : a2 = 2) (h3 : a3 = 2) (h4 : a4 = 2) (h5 : a5 = 2) (h6 : a6 = 2) (h7 : a7 = 2) (h8 : a8 = 2) (h9 : a9 = 2) {i : Int} (i0 : 0 ≤ i) (i1 : i < (Sl.lit [[(.int a0)], [(.int a1)], [(.int a2)], [(.int a3)], [(.int a4)], [(.int a5)], [(.int a6)], [(.int a7)], [(.int a8)], [(.int a9)]]).len) :
    (Sl.lit [[(.int a0)], [(.int a1)], [(.int a2)], [(.int a3)], [(.int a4)], [(.int a5)], [(.int a6)], [(.int a7)], [(.int a8)], [(.int a9)]]).int i 0 = 2 := by
  have i1 : i < 10 := i1
  have : i = 0 ∨ i = 1 ∨ i = 2 ∨ i = 3 ∨ i = 4 ∨ i = 5 ∨ i = 6 ∨ i = 7 ∨ i = 8 ∨ i = 9 := by omega
  rcases this with rfl | rfl | rfl | rfl | rfl | rfl | rfl | rfl | rfl | rfl
  · exact h0
  · exact h1
  · exact h2
  · exact h3
  · exact h4
  · exact h5
  · exact h6
  · exact h7
  · exact h8
  · exact h9

theorem lim0 {a c : Bool} {b d : Sl} {x : Int} (h : q_kLimbs a b c d x) (hb : b.len = 0) (hd : d.len = 0) : x = 0 := by
  have h : x = b.len + d.len := h
  omega


theorem bad_a (x : Int) {y : Int} : ¬ spanS (imin x (-1)) y := fun h => by
  have := h.1.1
  unfold imin at this
  split at this <;> omega
theorem bad_b (x : Int) {y : Int} : ¬ spanS y (imax x 65537) := fun h => by
  have := h.2.2
  unfold imax at this
  split at this <;> omega
theorem bad_c (x : Int) {y : Int} : ¬ spanS (imax x 65537) y := fun h => by
  have := h.1.2
  unfold imax at this
  split at this <;> omega

section
variable {m : Sl} {x1 x2 x3 : Int} {y5 : ByteArray} {b6 b8 b10 : Bool} {s7 s9 s11 : Sl} {s12 s14 : Sl} {x13 x15 x20 x25 x30 : Int} {b16 b18 b21 b23 b26 b28 : Bool} {s17 s19 s22 s24 s27 s29 : Sl}
theorem w15 (hy1 : s12.len = 0 ∧ x13 = 2) (hy2 : s14.len = 0 ∧ x15 = 2) (hg : zeroF b16 s17 b18 s19 ∧ x20 = 2) (hr : zeroF b21 s22 b23 s24 ∧ x25 = 2) (hl : zeroF b26 s27 b28 s29 ∧ x30 = 2) (hn : okN y5) :
    V_WWrong_15 m x1 x2 x3 y5 b6 s7 b8 s9 b10 s11 s12 x13 s14 x15 b16 s17 b18 s19 x20 b21 s22 b23 s24 x25 b26 s27 b28 s29 x30 := by
  unfold V_WWrong_15
  simp only [Bool.decide_eq_true]
  refine ⟨hn, fun _ _ _ _ _ _ x104 _ q1 => ⟨hn, fun _ _ _ _ _ _ x109 _ q2 => ⟨hn, fun _ _ _ _ _ _ x114 _ q3 => ⟨hn, fun _ _ _ _ _ _ x119 _ q4 => ⟨hn, fun _ _ _ _ _ _ x124 _ q5 _ => ?_⟩⟩⟩⟩⟩
  have e1 := (q1.1 fun h => bad_a x1 h.2).2
  have e2 := (q2.1 fun h => bad_b x2 h.2.2).2
  have e3 := (q3.1 fun h => bad_c x2 h.2.2).2
  have e4 := (q4.1 fun h => not_okF h.1).2
  have e5 := (q5.1 fun h => not_okF h.1).2
  refine ⟨fun i => 0 ≤ i ∧ i ≤ 10, fun i => (10 - i).toNat, ⟨Int.le_refl _, by decide⟩, fun i _ ⟨i0, i1⟩ => ⟨fun hi => ⟨i0, hi, fun _ => ⟨fun h => absurd (ten hy1.2 hy2.2 hg.2 hr.2 hl.2 e1 e2 e3 e4 e5 i0 hi) h, fun _ => ?_⟩⟩, fun _ => ?_⟩⟩
  · have hi : i < 10 := hi
    exact ⟨by rw [rng64]; omega, ⟨by omega, by omega⟩, by show (10 - (i + 1)).toNat < (10 - i).toNat; omega⟩
  · have l1 := hy1.1
    have l2 := hy2.1
    obtain ⟨⟨_, g1, _, g2⟩, _⟩ := hg
    obtain ⟨⟨_, r1, _, r2⟩, _⟩ := hr
    obtain ⟨⟨_, k1, _, k2⟩, _⟩ := hl
    clear q1 q2 q3 q4 q5
    repeat' (first | exact trivial | intro _ | refine (rng64.2 ⟨?_, ?_⟩) | refine ⟨?_, ?_⟩ | unfold V_WWrong_13 | unfold V_WWrong_14)
    all_goals first | ((try unfold q_kLimbs at *); omega) | (refine decide_eq_true ?_; (try unfold q_kLimbs at *); omega)
end

theorem unsorted {s : Sl} {c d e f : Int} {n1 k1 n2 k2 : Bool} {l1 m1 l2 m2 : Sl} {a b : Int} (hab : b < a) :
    ¬ sortedT (Sl.app s (Sl.lit [[.int a, .int c, .int d, .bool n1, Sl.d l1, .bool k1, Sl.d m1], [.int b, .int e, .int f, .bool n2, Sl.d l2, .bool k2, Sl.d m2]])) := fun h => by
  have s0 := len0 s
  have l : (Sl.app s (Sl.lit [[.int a, .int c, .int d, .bool n1, Sl.d l1, .bool k1, Sl.d m1], [.int b, .int e, .int f, .bool n2, Sl.d l2, .bool k2, Sl.d m2]])).len = s.len + 2 := len_app _ _
  have g := h (s.len + 1) (by omega) (by omega)
  unfold ltR ltK at g
  rw [show s.len + 1 - 1 = s.len by omega, int_app_ge (i := s.len + 1) (by omega), int_app_ge (i := s.len) (j := 0) (by omega), show s.len + 1 - s.len = 1 by omega, show s.len - s.len = 0 by omega] at g
  exact g (.inl hab)

theorem WWrong_ok : V_WWrong := by
  intro m _ x1 _ x2 _ x3 rx _
  simp only [Bool.decide_eq_true]
  rw [rngu8] at rx
  refine ⟨trivial, fun b4 h4 => ⟨fun h => absurd h4 h, fun _ => ⟨trivial, fun name two s _ ⟨hn, h2, hB⟩ => ?_⟩⟩⟩
  have on := built_name hn
  have en : okN (bytes []) := by unfold okN; decide
  have hl := hB.1
  have s0 := len0 s
  have tm : Int.tmod x3 3 = x3 % 3 := Int.tmod_eq_emod_of_nonneg rx.1
  rw [tm]
  have bt : ¬ validT (bytes []) two s := fun h => absurd h.1.1 (by decide)
  have k1 : ∀ {a b k : Int}, ¬ okT name (decide True) s a b := fun h => absurd h.1.2 (by decide)
  refine ⟨by decide, by rw [rngu8]; omega, fun _ => ?_, fun _ => ⟨fun _ => ?_, fun _ => ⟨fun _ => ?_, fun _ => ?_⟩⟩⟩
  · refine ⟨trivial, fun b8 s9 r9 b10 s11 r11 hv => ⟨trivial, fun s12 _ x13 _ hy1 => ⟨trivial, fun s14 _ x15 _ hy2 => ⟨on, fun b16 s17 _ b18 s19 _ x20 _ q1 => ⟨on, fun b21 s22 _ b23 s24 _ x25 _ q2 => ⟨on, fun b26 s27 _ b28 s29 _ x30 _ q3 => ?_⟩⟩⟩⟩⟩⟩
    exact w15 (hy1.1 (bad_a x1)) (hy2.1 (bad_b x2)) (q1.1 fun h => absurd h.1.2 (by decide)) (q2.1 fun h => absurd h.2.1.2 (by decide)) (q3.1 fun h => absurd h.2.1.2 (by decide)) on
  · refine ⟨trivial, fun b8 s9 r9 b10 s11 r11 hv => ⟨trivial, fun s12 _ x13 _ hy1 => ⟨trivial, fun s14 _ x15 _ hy2 => ⟨en, fun b16 s17 _ b18 s19 _ x20 _ q1 => ⟨en, fun b21 s22 _ b23 s24 _ x25 _ q2 => ⟨en, fun b26 s27 _ b28 s29 _ x30 _ q3 => ?_⟩⟩⟩⟩⟩⟩
    exact w15 (hy1.1 (bad_a x1)) (hy2.1 (bad_b x2)) (q1.1 fun h => bt h.1.1) (q2.1 fun h => bt h.2.1.1) (q3.1 fun h => bt h.2.1.1) on
  · refine ⟨by show (0 + s.len) * 88 ≤ _; omega, trivial, fun x8 _ x9 _ x10 _ b11 s12 _ b13 s14 _ hr1 => ⟨trivial, fun x15 _ x16 _ x17 _ b18 s19 _ b20 s21 _ hr2 => ⟨by rw [len_app]; show (0 + s.len + 2) * 88 ≤ _; omega, trivial, fun b22 s23 _ b24 s25 _ hv => ⟨trivial, fun s26 _ x27 _ hy1 => ⟨trivial, fun s28 _ x29 _ hy2 => ?_⟩⟩⟩⟩⟩
    have bs : ¬ validT name two (Sl.app (Sl.app (Sl.lit []) s) (Sl.lit [[(.int x8), (.int x9), (.int x10), (.bool b11), (Sl.d s12), (.bool b13), (Sl.d s14)], [(.int x15), (.int x16), (.int x17), (.bool b18), (Sl.d s19), (.bool b20), (Sl.d s21)]])) := fun h => unsorted (by rw [hr1.1, hr2.1]; decide) h.2.2.1
    refine ⟨on, fun b30 s31 _ b32 s33 _ x34 _ q1 => ⟨on, fun b35 s36 _ b37 s38 _ x39 _ q2 => ⟨on, fun b40 s41 _ b42 s43 _ x44 _ q3 => ⟨on, fun _ _ _ _ _ _ x49 _ q4 => ⟨on, fun _ _ _ _ _ _ x54 _ q5 => ⟨on, fun _ _ _ _ _ _ x59 _ q6 => ⟨on, fun _ _ _ _ _ _ x64 _ q7 => ⟨on, fun _ _ _ _ _ _ x69 _ q8 _ => ?_⟩⟩⟩⟩⟩⟩⟩⟩
    have e1 := (q4.1 fun h => bad_a x1 h.2).2
    have e2 := (q5.1 fun h => bad_b x2 h.2.2).2
    have e3 := (q6.1 fun h => bad_c x2 h.2.2).2
    have e4 := (q7.1 fun h => not_okF h.1).2
    have e5 := (q8.1 fun h => not_okF h.1).2
    have hy1 := hy1.1 (bad_a x1)
    have hy2 := hy2.1 (bad_b x2)
    have hg := q1.1 fun h => bs h.1.1
    have hr := q2.1 fun h => bs h.2.1.1
    have hl := q3.1 fun h => bs h.2.1.1
    refine ⟨fun i => 0 ≤ i ∧ i ≤ 10, fun i => (10 - i).toNat, ⟨Int.le_refl _, by decide⟩, fun i _ ⟨i0, i1⟩ => ⟨fun hi => ⟨i0, hi, fun _ => ⟨fun h => absurd (ten hy1.2 hy2.2 hg.2 hr.2 hl.2 e1 e2 e3 e4 e5 i0 hi) h, fun _ => ?_⟩⟩, fun _ => ?_⟩⟩
    · have hi : i < 10 := hi
      exact ⟨by rw [rng64]; omega, ⟨by omega, by omega⟩, by show (10 - (i + 1)).toNat < (10 - i).toNat; omega⟩
    · have l1 := hy1.1
      have l2 := hy2.1
      obtain ⟨⟨_, g1, _, g2⟩, _⟩ := hg
      obtain ⟨⟨_, r1, _, r2⟩, _⟩ := hr
      obtain ⟨⟨_, k1', _, k2'⟩, _⟩ := hl
      clear q1 q2 q3 q4 q5 q6 q7 q8 bs hr1 hr2 hv
      repeat' (first | exact trivial | intro _ | refine (rng64.2 ⟨?_, ?_⟩) | refine ⟨?_, ?_⟩ | unfold V_WWrong_29 | unfold V_WWrong_30)
      all_goals first | ((try unfold q_kLimbs at *); omega) | (refine decide_eq_true ?_; (try unfold q_kLimbs at *); omega)
  · omega

end Go.Sx.N
