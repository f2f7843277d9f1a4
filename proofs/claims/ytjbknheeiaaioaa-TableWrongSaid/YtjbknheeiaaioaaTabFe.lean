/-
  The examples of the chapter; what the tables that the statements build say. Conditions: none.
-/
import Derived.Test.YtjbknheeiaaioaaTabFd
set_option linter.unusedVariables false
set_option linter.unusedSimpArgs false
namespace Go.Sx.N

theorem look_at {ok : Prop} {C : Int → Prop} {s : Sl} {a c : Bool} {b d : Sl} {e k : Int} (h : lookR ok C s a b c d e) (hok : ok) (hk : C k) : rowF s k a b c d ∧ e = 0 := (h.2 hok).2 k hk
theorem look_no {ok : Prop} {C : Int → Prop} {s : Sl} {a c : Bool} {b d : Sl} {e : Int} (h : lookR ok C s a b c d e) (hok : ok) (hk : ∀ k, ¬ C k) : zeroF a b c d ∧ e = 6 := (h.2 hok).1 hk

theorem four {Q : Int → Prop} (h0 : Q 0) (h1 : Q 1) (h2 : Q 2) (h3 : Q 3) : ∀ i : Int, 0 ≤ i → i < 4 → Q i := fun i i0 i1 => by
  rcases (show i = 0 ∨ i = 1 ∨ i = 2 ∨ i = 3 by omega) with rfl | rfl | rfl | rfl
  · exact h0
  · exact h1
  · exact h2
  · exact h3
theorem three {Q : Int → Prop} (h0 : Q 0) (h1 : Q 1) (h2 : Q 2) : ∀ i : Int, 0 ≤ i → i < 3 → Q i := fun i i0 i1 => by
  rcases (show i = 0 ∨ i = 1 ∨ i = 2 by omega) with rfl | rfl | rfl
  · exact h0
  · exact h1
  · exact h2

def keyAt (s : Sl) (i a b k : Int) : Prop := s.int i 0 = a ∧ s.int i 1 = b ∧ s.int i 2 = k
def fracAt (s : Sl) (i : Int) (q : Rat) : Prop := litF q (s.bool i 3) (s.sub i 4) (s.bool i 5) (s.sub i 6)

theorem right_of {two : Bool} {s : Sl} {i a b k : Int} {q : Rat} (h : keyAt s i a b k) (hq : fracAt s i q) (ha : -1000 ≤ a ∧ a ≤ 1000) (hb : -1000 ≤ b ∧ b ≤ 1000) (ht : two = true ∨ b = 0) (hk : 0 ≤ k ∧ k ≤ 1000) : rightAt two s i := by
  unfold rightAt rightS
  rw [h.1, h.2.1, h.2.2]
  exact ⟨by omega, by omega, ht, by omega, litF_ok hq⟩

section
variable {s : Sl} {q0 q1 q2 q3 : Rat}

theorem age_valid (hl : s.len = 4) (k0 : keyAt s 0 0 0 0) (k1 : keyAt s 1 30 0 0) (k2 : keyAt s 2 30 0 100) (k3 : keyAt s 3 60 0 0) (f0 : fracAt s 0 q0) (f1 : fracAt s 1 q1) (f2 : fracAt s 2 q2) (f3 : fracAt s 3 q3) :
    validT (bytes [97, 103, 101]) false s := by
  refine ⟨by decide, by omega, fun i i0 i1 => ?_, ?_⟩
  · rw [hl] at i1
    unfold ltR ltK
    rcases (show i = 1 ∨ i = 2 ∨ i = 3 by omega) with rfl | rfl | rfl
    · rw [k1.1, k1.2.1, k1.2.2, show (1 : Int) - 1 = 0 from rfl, k0.1, k0.2.1, k0.2.2]; omega
    · rw [k2.1, k2.2.1, k2.2.2, show (2 : Int) - 1 = 1 from rfl, k1.1, k1.2.1, k1.2.2]; omega
    · rw [k3.1, k3.2.1, k3.2.2, show (3 : Int) - 1 = 2 from rfl, k2.1, k2.2.1, k2.2.2]; omega
  · rw [hl]
    exact four (right_of k0 f0 (by omega) (by omega) (.inr rfl) (by omega)) (right_of k1 f1 (by omega) (by omega) (.inr rfl) (by omega)) (right_of k2 f2 (by omega) (by omega) (.inr rfl) (by omega)) (right_of k3 f3 (by omega) (by omega) (.inr rfl) (by omega))

theorem force4 {known : Int} (hl : s.len = 4) {k a b : Int} (i0 : 0 ≤ k) (i1 : k < 4) (ha : s.int k 0 = a) (hb : s.int k 1 = b) (hk : s.int k 2 ≤ known)
    (h : ∀ j : Int, 0 ≤ j → j < 4 → k < j → s.int j 0 = a → s.int j 1 = b → known < s.int j 2) : inForce s known k :=
  ⟨⟨i0, by omega⟩, hk, fun j j0 j1 e0 e1 => h j (by omega) (by omega) j0 (by rw [e0, ha]) (by rw [e1, hb])⟩

theorem age_none (hl : s.len = 4) (k0 : keyAt s 0 0 0 0) (k1 : keyAt s 1 30 0 0) (k2 : keyAt s 2 30 0 100) (k3 : keyAt s 3 60 0 0) : ∀ k, ¬ candX s (-1) 50 k := fun k h => by
  have h1 := h.1.1.1
  rw [hl] at h1
  have h2 := h.1.2
  rcases (show k = 0 ∨ k = 1 ∨ k = 2 ∨ k = 3 by omega) with rfl | rfl | rfl | rfl
  · rw [k0.1] at h2; omega
  · rw [k1.1] at h2; omega
  · rw [k2.1] at h2; omega
  · rw [k3.1] at h2; omega

theorem age_1 (hl : s.len = 4) (k0 : keyAt s 0 0 0 0) (k1 : keyAt s 1 30 0 0) (k2 : keyAt s 2 30 0 100) (k3 : keyAt s 3 60 0 0) : candX s 35 50 1 := by
  refine ⟨⟨force4 hl (by omega) (by omega) k1.1 k1.2.1 (by rw [k1.2.2]; omega) (four (fun h => by omega) (fun h => by omega) (fun _ _ _ => by rw [k2.2.2]; omega) (fun _ h => by rw [k3.1] at h; omega)), by rw [k1.1]; omega⟩, fun j hj h => ?_⟩
  rw [k1.1]
  have h1 := hj.1
  rw [hl] at h1
  rcases (show j = 0 ∨ j = 1 ∨ j = 2 ∨ j = 3 by omega) with rfl | rfl | rfl | rfl
  · rw [k0.1]; omega
  · rw [k1.1]; omega
  · rw [k2.1]; omega
  · rw [k3.1] at h; omega
theorem age_2 (hl : s.len = 4) (k0 : keyAt s 0 0 0 0) (k1 : keyAt s 1 30 0 0) (k2 : keyAt s 2 30 0 100) (k3 : keyAt s 3 60 0 0) : candX s 35 100 2 := by
  refine ⟨⟨force4 hl (by omega) (by omega) k2.1 k2.2.1 (by rw [k2.2.2]; omega) (four (fun h => by omega) (fun h => by omega) (fun h => by omega) (fun _ h => by rw [k3.1] at h; omega)), by rw [k2.1]; omega⟩, fun j hj h => ?_⟩
  rw [k2.1]
  have h1 := hj.1
  rw [hl] at h1
  rcases (show j = 0 ∨ j = 1 ∨ j = 2 ∨ j = 3 by omega) with rfl | rfl | rfl | rfl
  · rw [k0.1]; omega
  · rw [k1.1]; omega
  · rw [k2.1]; omega
  · rw [k3.1] at h; omega
theorem age_3 (hl : s.len = 4) (k0 : keyAt s 0 0 0 0) (k1 : keyAt s 1 30 0 0) (k2 : keyAt s 2 30 0 100) (k3 : keyAt s 3 60 0 0) : candX s 60 0 3 := by
  refine ⟨⟨force4 hl (by omega) (by omega) k3.1 k3.2.1 (by rw [k3.2.2]; omega) (four (fun h => by omega) (fun h => by omega) (fun h => by omega) (fun h => by omega)), by rw [k3.1]; omega⟩, fun j hj h => ?_⟩
  rw [k3.1]
  exact h

theorem two_valid (hl : s.len = 3) (k0 : keyAt s 0 1 0 0) (k1 : keyAt s 1 1 5 0) (k2 : keyAt s 2 3 2 0) (f0 : fracAt s 0 q0) (f1 : fracAt s 1 q1) (f2 : fracAt s 2 q2) :
    validT (bytes [116, 119, 111]) true s := by
  refine ⟨by decide, by omega, fun i i0 i1 => ?_, ?_⟩
  · rw [hl] at i1
    unfold ltR ltK
    rcases (show i = 1 ∨ i = 2 by omega) with rfl | rfl
    · rw [k1.1, k1.2.1, k1.2.2, show (1 : Int) - 1 = 0 from rfl, k0.1, k0.2.1, k0.2.2]; omega
    · rw [k2.1, k2.2.1, k2.2.2, show (2 : Int) - 1 = 1 from rfl, k1.1, k1.2.1, k1.2.2]; omega
  · rw [hl]
    exact three (right_of k0 f0 (by omega) (by omega) (.inl rfl) (by omega)) (right_of k1 f1 (by omega) (by omega) (.inl rfl) (by omega)) (right_of k2 f2 (by omega) (by omega) (.inl rfl) (by omega))

theorem force3 {known : Int} (hl : s.len = 3) {k a b : Int} (i0 : 0 ≤ k) (i1 : k < 3) (ha : s.int k 0 = a) (hb : s.int k 1 = b) (hk : s.int k 2 ≤ known)
    (h : ∀ j : Int, 0 ≤ j → j < 3 → k < j → s.int j 0 = a → s.int j 1 = b → known < s.int j 2) : inForce s known k :=
  ⟨⟨i0, by omega⟩, hk, fun j j0 j1 e0 e1 => h j (by omega) (by omega) j0 (by rw [e0, ha]) (by rw [e1, hb])⟩

theorem two_force (hl : s.len = 3) (k0 : keyAt s 0 1 0 0) (k1 : keyAt s 1 1 5 0) (k2 : keyAt s 2 3 2 0) : inForce s 0 0 ∧ inForce s 0 1 ∧ inForce s 0 2 :=
  ⟨force3 hl (by omega) (by omega) k0.1 k0.2.1 (by rw [k0.2.2]; omega) (three (fun h => by omega) (fun _ _ h => by rw [k1.2.1] at h; omega) (fun _ h => by rw [k2.1] at h; omega)),
   force3 hl (by omega) (by omega) k1.1 k1.2.1 (by rw [k1.2.2]; omega) (three (fun h => by omega) (fun h => by omega) (fun _ h => by rw [k2.1] at h; omega)),
   force3 hl (by omega) (by omega) k2.1 k2.2.1 (by rw [k2.2.2]; omega) (three (fun h => by omega) (fun h => by omega) (fun h => by omega))⟩

theorem two_cases (hl : s.len = 3) {j known : Int} (h : inForce s known j) : j = 0 ∨ j = 1 ∨ j = 2 := by
  have := h.1
  omega

theorem two_1 (hl : s.len = 3) (k0 : keyAt s 0 1 0 0) (k1 : keyAt s 1 1 5 0) (k2 : keyAt s 2 3 2 0) : candT s 2 7 0 1 := by
  have F := two_force hl k0 k1 k2
  refine ⟨⟨⟨⟨F.2.1, by rw [k1.1]; omega⟩, fun j hj h => ?_⟩, by rw [k1.2.1]; omega⟩, fun j hj h => ?_⟩
  · rw [k1.1]
    rcases two_cases hl hj with rfl | rfl | rfl
    · rw [k0.1]; omega
    · rw [k1.1]; omega
    · rw [k2.1] at h; omega
  · rw [k1.2.1]
    rcases two_cases hl hj.1.1 with rfl | rfl | rfl
    · rw [k0.2.1]; omega
    · rw [k1.2.1]; omega
    · rw [k2.2.1]; omega
theorem two_2 (hl : s.len = 3) (k0 : keyAt s 0 1 0 0) (k1 : keyAt s 1 1 5 0) (k2 : keyAt s 2 3 2 0) {a b : Int} (ha : 3 ≤ a) (hb : 2 ≤ b) : candT s a b 0 2 := by
  have F := two_force hl k0 k1 k2
  have X : candX s a 0 2 := ⟨⟨F.2.2, by rw [k2.1]; omega⟩, fun j hj h => by
    rw [k2.1]
    rcases two_cases hl hj with rfl | rfl | rfl
    · rw [k0.1]; omega
    · rw [k1.1]; omega
    · rw [k2.1]; omega⟩
  refine ⟨⟨X, by rw [k2.2.1]; omega⟩, fun j hj h => ?_⟩
  have := hj.2 2 F.2.2 (by rw [k2.1]; omega)
  rw [k2.1] at this
  rcases two_cases hl hj.1.1 with rfl | rfl | rfl
  · rw [k0.1] at this; omega
  · rw [k1.1] at this; omega
  · omega
theorem two_none (hl : s.len = 3) (k0 : keyAt s 0 1 0 0) (k1 : keyAt s 1 1 5 0) (k2 : keyAt s 2 3 2 0) : ∀ k, ¬ candT s 3 1 0 k := fun k h => by
  have F := two_force hl k0 k1 k2
  have h1 := h.1.1.2 2 F.2.2 (by rw [k2.1]; omega)
  rw [k2.1] at h1
  have h2 := h.1.2
  rcases two_cases hl h.1.1.1.1 with rfl | rfl | rfl
  · rw [k0.1] at h1; omega
  · rw [k1.1] at h1; omega
  · rw [k2.2.1] at h2; omega

end

/-- A fraction that was looked up is the one that is asked for. -/
theorem looked {s : Sl} {k : Int} {q : Rat} {a c a' c' : Bool} {b d b' d' : Sl} (h : rowF s k a b c d) (hf : fracAt s k q) (hw : litF q a' b' c' d') (rb : Ranged b [some .u16]) (rd : Ranged d [some .u16]) (rb' : Ranged b' [some .u16]) (rd' : Ranged d' [some .u16]) :
    (a = a' ∧ SameI b b') ∧ c = c' ∧ SameI d d' := by
  have h' := SameF.symm h
  have i1 : IsQ q a b c d := hf.1.of_same h'.1.1 h'.1.2 h'.2.1 h'.2.2
  exact i1.same hw.1 (ranged16 rb) (ranged16 rd) (ranged16 rb') (ranged16 rd')

set_option maxHeartbeats 2000000 in
theorem awake_ok : V_awake := by
  intro _
  simp only [Bool.decide_eq_true]
  refine ⟨trivial, ?_⟩
  rintro _ _ _ _ _ _ a0 b0 rb0 c0 d0 rd0 ⟨rfl, rfl, rfl, f0⟩
  refine ⟨trivial, ?_⟩
  rintro _ _ _ _ _ _ a1 b1 rb1 c1 d1 rd1 ⟨rfl, rfl, rfl, f1⟩
  refine ⟨trivial, ?_⟩
  rintro _ _ _ _ _ _ a2 b2 rb2 c2 d2 rd2 ⟨rfl, rfl, rfl, f2⟩
  refine ⟨trivial, ?_⟩
  rintro _ _ _ _ _ _ a3 b3 rb3 c3 d3 rd3 ⟨rfl, rfl, rfl, f3⟩
  refine ⟨trivial, ?_⟩
  rintro _ _ _ _ _ _ a4 b4 rb4 c4 d4 rd4 ⟨rfl, rfl, rfl, f4⟩
  refine ⟨trivial, ?_⟩
  rintro _ _ _ _ _ _ a5 b5 rb5 c5 d5 rd5 ⟨rfl, rfl, rfl, f5⟩
  refine ⟨trivial, ?_⟩
  rintro _ _ _ _ _ _ a6 b6 rb6 c6 d6 rd6 ⟨rfl, rfl, rfl, f6⟩
  have nA : okN (bytes [97, 103, 101]) := by show (3 : Int) ≤ 9223372036854775807; decide
  have nT : okN (bytes [116, 119, 111]) := by show (3 : Int) ≤ 9223372036854775807; decide
  refine ⟨nA, fun xa xb rxb xc xd rxd xe _ h1 => ⟨nT, fun ya yb ryb yc yd ryd ye _ h2 => ?_⟩⟩
  have vA := age_valid (q0 := fracQ 1 10) (q1 := fracQ 1 5) (q2 := fracQ 1 4) (q3 := fracQ 1 2) (s := Sl.lit [[.int 0, .int 0, .int 0, .bool a0, Sl.d b0, .bool c0, Sl.d d0], [.int 30, .int 0, .int 0, .bool a1, Sl.d b1, .bool c1, Sl.d d1], [.int 30, .int 0, .int 100, .bool a2, Sl.d b2, .bool c2, Sl.d d2], [.int 60, .int 0, .int 0, .bool a3, Sl.d b3, .bool c3, Sl.d d3]]) rfl ⟨rfl, rfl, rfl⟩ ⟨rfl, rfl, rfl⟩ ⟨rfl, rfl, rfl⟩ ⟨rfl, rfl, rfl⟩ f0 f1 f2 f3
  have vT := two_valid (q0 := fracQ 1 1) (q1 := fracQ 2 1) (q2 := fracQ 3 1) (s := Sl.lit [[.int 1, .int 0, .int 0, .bool a4, Sl.d b4, .bool c4, Sl.d d4], [.int 1, .int 5, .int 0, .bool a5, Sl.d b5, .bool c5, Sl.d d5], [.int 3, .int 2, .int 0, .bool a6, Sl.d b6, .bool c6, Sl.d d6]]) rfl ⟨rfl, rfl, rfl⟩ ⟨rfl, rfl, rfl⟩ ⟨rfl, rfl, rfl⟩ f4 f5 f6
  have oA := And.intro vA (rfl : false = false)
  have oT := And.intro vT (rfl : true = true)
  have e1 : xe = 6 := (look_no h1 oA (age_none rfl ⟨rfl, rfl, rfl⟩ ⟨rfl, rfl, rfl⟩ ⟨rfl, rfl, rfl⟩ ⟨rfl, rfl, rfl⟩)).2
  have e2 : ye = 6 := (look_no h2 oT (two_none rfl ⟨rfl, rfl, rfl⟩ ⟨rfl, rfl, rfl⟩ ⟨rfl, rfl, rfl⟩)).2
  refine ⟨fun h => absurd e1 h, fun _ => ⟨fun h => absurd e2 h, fun _ => ?_⟩⟩
  refine ⟨nA, fun a b rb c d rd e _ h => ?_⟩
  have w := look_at h oA (age_1 rfl ⟨rfl, rfl, rfl⟩ ⟨rfl, rfl, rfl⟩ ⟨rfl, rfl, rfl⟩ ⟨rfl, rfl, rfl⟩)
  refine ⟨fun _ => ⟨trivial, fun a' b' rb' c' d' rd' hw => ⟨trivial, fun r hr => ⟨fun _ => ?_, fun h => absurd (hr.2 (looked (q := fracQ 1 5) w.1 f1 hw rb rd rb' rd')) h⟩⟩⟩, fun h => absurd w.2 h⟩
  clear h w hr hw
  refine ⟨nA, fun a b rb c d rd e _ h => ?_⟩
  have w := look_at h oA (age_2 rfl ⟨rfl, rfl, rfl⟩ ⟨rfl, rfl, rfl⟩ ⟨rfl, rfl, rfl⟩ ⟨rfl, rfl, rfl⟩)
  refine ⟨fun _ => ⟨trivial, fun a' b' rb' c' d' rd' hw => ⟨trivial, fun r hr => ⟨fun _ => ?_, fun h => absurd (hr.2 (looked (q := fracQ 1 4) w.1 f2 hw rb rd rb' rd')) h⟩⟩⟩, fun h => absurd w.2 h⟩
  clear h w hr hw
  refine ⟨nA, fun a b rb c d rd e _ h => ?_⟩
  have w := look_at h oA (age_3 rfl ⟨rfl, rfl, rfl⟩ ⟨rfl, rfl, rfl⟩ ⟨rfl, rfl, rfl⟩ ⟨rfl, rfl, rfl⟩)
  refine ⟨fun _ => ⟨trivial, fun a' b' rb' c' d' rd' hw => ⟨trivial, fun r hr => ⟨fun _ => ?_, fun h => absurd (hr.2 (looked (q := fracQ 1 2) w.1 f3 hw rb rd rb' rd')) h⟩⟩⟩, fun h => absurd w.2 h⟩
  clear h w hr hw
  refine ⟨nT, fun a b rb c d rd e _ h => ?_⟩
  have w := look_at h oT (two_1 rfl ⟨rfl, rfl, rfl⟩ ⟨rfl, rfl, rfl⟩ ⟨rfl, rfl, rfl⟩)
  refine ⟨fun _ => ⟨trivial, fun a' b' rb' c' d' rd' hw => ⟨trivial, fun r hr => ⟨fun _ => ?_, fun h => absurd (hr.2 (looked (q := fracQ 2 1) w.1 f5 hw rb rd rb' rd')) h⟩⟩⟩, fun h => absurd w.2 h⟩
  clear h w hr hw
  refine ⟨nT, fun a b rb c d rd e _ h => ?_⟩
  have w := look_at h oT (two_2 rfl ⟨rfl, rfl, rfl⟩ ⟨rfl, rfl, rfl⟩ ⟨rfl, rfl, rfl⟩ (by decide) (by decide))
  exact ⟨fun _ => ⟨trivial, fun a' b' rb' c' d' rd' hw => ⟨trivial, fun r hr => ⟨hr.2 (looked (q := fracQ 3 1) w.1 f6 hw rb rd rb' rd'), trivial⟩⟩⟩, fun h => absurd w.2 h⟩

/-! ### Built tables -/
theorem built_valid {s t : Sl} {two two' : Bool} {n : ByteArray} (h : q_Built s two n two' t) : validT n two t := by
  obtain ⟨rfl, _, hl, hs, hb, _⟩ := h
  refine ⟨by decide, by rw [hl]; unfold imin; split <;> omega, hs, fun i i0 i1 => ?_⟩
  obtain ⟨h1, h2, h3, h4, h5⟩ := hb i i0 i1
  exact ⟨by omega, by omega, h3, h4, h5⟩
theorem built_name {s t : Sl} {two two' : Bool} {n : ByteArray} (h : q_Built s two n two' t) : okN n := by
  obtain ⟨rfl, _⟩ := h
  show (5 : Int) ≤ 9223372036854775807
  decide

end Go.Sx.N
