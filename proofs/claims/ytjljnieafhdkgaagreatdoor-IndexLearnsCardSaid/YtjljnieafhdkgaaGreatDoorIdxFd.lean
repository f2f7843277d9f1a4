/-
  The chapter's examples. Conditions: none.
-/
import Derived.Test.YtjljnieafhdkgaaGreatDoorIdxFc
set_option linter.unusedVariables false
set_option linter.unusedSimpArgs false
namespace Go.Sx.N

section
variable {s : Sl}

theorem three {Q : Int → Prop} (h0 : Q 0) (h1 : Q 1) (h2 : Q 2) : ∀ i : Int, 0 ≤ i → i < 3 → Q i := fun i i0 i1 => by
  have : i = 0 ∨ i = 1 ∨ i = 2 := by omega
  rcases this with rfl | rfl | rfl
  · exact h0
  · exact h1
  · exact h2

theorem cpi_valid {n : ByteArray} {two : Bool} (h : q_cpi n two s) : validT n two s ∧ two = false := by
  obtain ⟨rfl, rfl, hl, h0, h1, h2⟩ := h
  refine ⟨⟨⟨by decide, by decide⟩, by omega, fun i i0 i1 => ?_, ?_⟩, rfl⟩
  · rw [hl] at i1
    have : i = 1 ∨ i = 2 := by omega
    unfold ltR ltK
    rcases this with rfl | rfl
    · have e : (1 : Int) - 1 = 0 := rfl
      rw [e, h0.1, h0.2.1, h0.2.2.1, h1.1, h1.2.1, h1.2.2.1]; omega
    · have e : (2 : Int) - 1 = 1 := rfl
      rw [e, h1.1, h1.2.1, h1.2.2.1, h2.1, h2.2.1, h2.2.2.1]; omega
  · rw [hl]
    refine three ?_ ?_ ?_
    · unfold rightAt rightS; rw [h0.1, h0.2.1, h0.2.2.1]; exact ⟨by omega, by omega, .inr rfl, by omega, h0.2.2.2.1⟩
    · unfold rightAt rightS; rw [h1.1, h1.2.1, h1.2.2.1]; exact ⟨by omega, by omega, .inr rfl, by omega, h1.2.2.2.1⟩
    · unfold rightAt rightS; rw [h2.1, h2.2.1, h2.2.2.1]; exact ⟨by omega, by omega, .inr rfl, by omega, h2.2.2.2.1⟩

theorem cpi_name {n : ByteArray} {two : Bool} (h : q_cpi n two s) : okN n := by
  rw [h.1]; unfold okN; decide

/-- The rates of the example, as they are known on two days. -/
theorem cpi_rates {n : ByteArray} {two : Bool} (h : q_cpi n two s) : rateO s 799 1900 = some (Rat.divInt 1 50) ∧ rateO s 799 1901 = some (Rat.divInt 1 50) ∧ rateO s 799 1902 = some (Rat.divInt 1 10) ∧ rateO s 799 1903 = some (Rat.divInt 1 10) ∧
    rateO s 800 1901 = some (Rat.divInt 1 50) ∧ rateO s 800 1902 = some (Rat.divInt 1 20) := by
  obtain ⟨_, _, hl, h0, h1, h2⟩ := h
  have hB : ∀ i : Int, 0 ≤ i → i < s.len → s.int i 1 = 0 := by rw [hl]; exact three h0.2.1 h1.2.1 h2.2.1
  have all : ∀ {Q : Int → Prop}, Q 0 → Q 1 → Q 2 → ∀ j : Int, 0 ≤ j → j < s.len → Q j := fun a b c => by rw [hl]; exact three a b c
  have f0 : ∀ k, 0 ≤ k → inForce s k 0 := fun k hk => ⟨by omega, by rw [h0.2.2.1]; exact hk, fun j j0 j1 e _ => by
    have : j = 1 ∨ j = 2 := by omega
    rcases this with rfl | rfl
    · rw [h1.1, h0.1] at e; omega
    · rw [h2.1, h0.1] at e; omega⟩
  have f1 : inForce s 799 1 := ⟨by omega, by rw [h1.2.2.1]; omega, fun j j0 j1 e _ => by
    have : j = 2 := by omega
    subst this
    rw [h2.2.2.1]; omega⟩
  have f2 : inForce s 800 2 := ⟨by omega, by rw [h2.2.2.1]; omega, fun j j0 j1 _ _ => by omega⟩
  have n2 : ¬ inForce s 799 2 := fun k => by have := k.2.1; rw [h2.2.2.1] at this; omega
  have c0 : ∀ k y, 0 ≤ k → 1900 ≤ y → y ≤ 1901 → candX s y k 0 := fun k y hk y0 y1 => ⟨⟨f0 k hk, by rw [h0.1]; exact y0⟩, fun j hj hjy => by
    refine all (Q := fun j => s.int j 0 ≤ y → s.int j 0 ≤ s.int 0 0) (fun _ => Int.le_refl _) (fun k => by rw [h1.1] at k; omega) (fun k => by rw [h2.1] at k; omega) j hj.1.1 hj.1.2 hjy⟩
  have c1 : ∀ y, 1902 ≤ y → candX s y 799 1 := fun y y0 => ⟨⟨f1, by rw [h1.1]; exact y0⟩, fun j hj hjy => by
    refine all (Q := fun j => s.int j 0 ≤ s.int 1 0) (by rw [h0.1, h1.1]; omega) (Int.le_refl _) (by rw [h2.1, h1.1]; omega) j hj.1.1 hj.1.2⟩
  have c2 : candX s 1902 800 2 := ⟨⟨f2, by rw [h2.1]; omega⟩, fun j hj hjy => by
    refine all (Q := fun j => s.int j 0 ≤ s.int 2 0) (by rw [h0.1, h2.1]; omega) (by rw [h1.1, h2.1]; omega) (Int.le_refl _) j hj.1.1 hj.1.2⟩
  exact ⟨by rw [rate_some hB (c0 799 1900 (by omega) (by omega) (by omega)), h0.2.2.2.2], by rw [rate_some hB (c0 799 1901 (by omega) (by omega) (by omega)), h0.2.2.2.2], by rw [rate_some hB (c1 1902 (by omega)), h1.2.2.2.2],
    by rw [rate_some hB (c1 1903 (by omega)), h1.2.2.2.2], by rw [rate_some hB (c0 800 1901 (by omega) (by omega) (by omega)), h0.2.2.2.2], by rw [rate_some hB c2, h2.2.2.2.2]⟩
end

theorem fYs : fY 0 = 1900 ∧ fY 366 = 1902 ∧ fY 1 = 1901 ∧ fY 365 = 1901 ∧ fY 1096 = 1904 ∧ fY 731 = 1903 ∧ fY 9 = 1901 :=
  ⟨fY_eq (by decide) (by decide) (by decide) (by decide), fY_eq (by decide) (by decide) (by decide) (by decide), fY_eq (by decide) (by decide) (by decide) (by decide), fY_eq (by decide) (by decide) (by decide) (by decide), fY_eq (by decide) (by decide) (by decide) (by decide), fY_eq (by decide) (by decide) (by decide) (by decide), fY_eq (by decide) (by decide) (by decide) (by decide)⟩

theorem gr_step {s : Sl} {known a y : Int} {n : Nat} {q r p : Rat} (h : grS s known a n = .ok q) (hy : y = a + n) (hr : rateO s known y = some r) (e : q * (1 + r) = p) (hf : (1 + r).num.natAbs < 65536 ^ 8 ∧ (1 + r).den < 65536 ^ 8) (hg : p.num.natAbs < 65536 ^ 8 ∧ p.den < 65536 ^ 8) : grS s known a (n + 1) = .ok p := by
  subst hy
  subst e
  exact grS_step h hr (fit_small hf.1 hf.2) (fit_small hg.1 hg.2)

theorem cpi_grow1 {n : ByteArray} {two : Bool} {s : Sl} (h : q_cpi n two s) : growS s 0 1096 799 = .ok (Rat.divInt 314721 250000) := by
  obtain ⟨r0, r1, r2, r3, _, _⟩ := cpi_rates h
  obtain ⟨y0, _, _, _, y4, _⟩ := fYs
  unfold growS
  rw [y0, y4]
  have g0 : grS s 799 1900 0 = .ok 1 := rfl
  have g1 := gr_step (p := Rat.divInt 51 50) g0 (y := 1900) rfl r0 (by decide +kernel) (by decide +kernel) (by decide +kernel)
  have g2 := gr_step (p := Rat.divInt 2601 2500) g1 (y := 1901) rfl r1 (by decide +kernel) (by decide +kernel) (by decide +kernel)
  have g3 := gr_step (p := Rat.divInt 28611 25000) g2 (y := 1902) rfl r2 (by decide +kernel) (by decide +kernel) (by decide +kernel)
  exact gr_step (p := Rat.divInt 314721 250000) g3 (y := 1903) rfl r3 (by decide +kernel) (by decide +kernel) (by decide +kernel)
theorem cpi_grow2 {n : ByteArray} {two : Bool} {s : Sl} (h : q_cpi n two s) : growS s 1 731 800 = .ok (Rat.divInt 1071 1000) := by
  obtain ⟨_, _, _, _, r4, r5⟩ := cpi_rates h
  obtain ⟨_, _, y1, _, _, y5, _⟩ := fYs
  unfold growS
  rw [y1, y5]
  have g0 : grS s 800 1901 0 = .ok 1 := rfl
  have g1 := gr_step (p := Rat.divInt 51 50) g0 (y := 1901) rfl r4 (by decide +kernel) (by decide +kernel) (by decide +kernel)
  exact gr_step (p := Rat.divInt 1071 1000) g1 (y := 1902) rfl r5 (by decide +kernel) (by decide +kernel) (by decide +kernel)

theorem span_ok {a b : Int} (h : 0 ≤ a ∧ a ≤ 65536 ∧ 0 ≤ b ∧ b ≤ 65536) : spanS a b := ⟨⟨h.1, h.2.1⟩, h.2.2⟩

theorem same_frac {q : Rat} {a c a' c' : Bool} {b d b' d' : Sl} {r : Bool} (h : q_kSameFrac a b c d a' b' c' d' r) (h1 : IsQ q a b c d) (h2 : IsQ q a' b' c' d') (rb : Ranged b [some .u16]) (rd : Ranged d [some .u16]) (rb' : Ranged b' [some .u16]) (rd' : Ranged d' [some .u16]) : r = true :=
  h.2 (h1.same h2 (ranged16 rb) (ranged16 rd) (ranged16 rb') (ranged16 rd'))

theorem frac_is {n d : Int} {a c : Bool} {b e : Sl} (h : q_kFrac n d a b c e) (hd : 1 ≤ d) : IsQ (Rat.divInt n d) a b c e := by
  have := h.1
  rw [fracQ_pos hd] at this
  exact this

theorem xAwake_ok : V_xAwake := by
  intro _
  simp only [Bool.decide_eq_true]
  obtain ⟨Y0, Y366, Y1, Y365, Y1096, Y731, Y9⟩ := fYs
  refine ⟨trivial, fun s0 _ x1 _ h1 => ⟨trivial, fun s2 _ x3 _ h3 => ⟨trivial, fun y4 b5 s6 _ hc1 => ⟨cpi_name hc1, fun b7 s8 r8 b9 s10 r10 x11 _ hg1 => ⟨trivial, fun y12 b13 s14 _ hc2 => ⟨cpi_name hc2, fun b15 s16 r16 b17 s18 r18 x19 _ hg2 => ⟨trivial, fun b20 s21 r21 b22 s23 r23 hv => ⟨trivial, fun y24 b25 s26 _ hc3 => ⟨cpi_name hc3, fun b27 s28 r28 b29 s30 r30 x31 _ hg3 => ⟨trivial, fun y32 b33 s34 _ hc4 => ⟨cpi_name hc4, fun b35 s36 r36 b37 s38 r38 x39 _ hg4 => ⟨trivial, fun x40 _ x41 _ x42 _ b43 s44 r44 b45 s46 r46 hl => ⟨by show okN _; unfold okN; decide, fun b47 s48 _ b49 s50 _ x51 _ hg5 => ?_⟩⟩⟩⟩⟩⟩⟩⟩⟩⟩⟩⟩⟩
  have e1 := h1.2 (span_ok (by decide))
  have e3 := h3.2 (span_ok (by decide))
  have e11 := hg1.2 ⟨cpi_valid hc1, span_ok (by decide)⟩
  rw [cpi_grow1 hc1] at e11
  have e19 := hg2.2 ⟨cpi_valid hc2, span_ok (by decide)⟩
  rw [cpi_grow2 hc2] at e19
  have hv' := frac_is hv (by decide)
  have ov : okF b20 s21 b22 s23 := litF_okF hv
  have e31 := hg3.2 ⟨ov, cpi_valid hc3, span_ok (by decide)⟩
  rw [cpi_grow2 hc3] at e31
  have e31' := (show resF _ _ _ _ _ _ from e31)
  rw [hv'.fq, show Rat.divInt 100 1 * Rat.divInt 1071 1000 = Rat.divInt 1071 10 by decide +kernel] at e31'
  have f31 := e31'.1 (fit_small (by decide +kernel) (by decide +kernel))
  have e39 := hg4.2 ⟨cpi_valid hc4, span_ok (by decide)⟩
  have g9 : growS s34 9 9 0 = .ok 1 := by unfold growS; rw [Int.sub_self]; rfl
  rw [g9] at e39
  have e51 : x51 = 6 := by
    have hrow : ∀ i : Int, 0 ≤ i → i < 1 → i = 0 := fun i i0 i1 => by omega
    have hok : okT (bytes [108, 97, 116, 101]) (decide False) (Sl.lit [[(.int x40), (.int x41), (.int x42), (.bool b43), (Sl.d s44), (.bool b45), (Sl.d s46)]]) 0 9 := by
      refine ⟨⟨⟨⟨by decide, by decide⟩, (show (1 : Int) ≤ 400 by decide), fun i i0 i1 => ?_, fun i i0 i1 => ?_⟩, rfl⟩, span_ok (by decide)⟩
      · have : i < 1 := i1
        omega
      · have := hrow i i0 i1
        subst this
        obtain ⟨a1, a2, a3, a4⟩ := hl
        show rightS _ x40 x41 x42 b43 s44 b45 s46
        rw [a1, a2, a3]
        exact ⟨by omega, by omega, .inr rfl, by omega, litF_okF a4⟩
    have g := hg5.2 hok
    have : growS (Sl.lit [[(.int x40), (.int x41), (.int x42), (.bool b43), (Sl.d s44), (.bool b45), (Sl.d s46)]]) 0 9 0 = .err 6 := by
      unfold growS
      rw [Y0, Y9]
      refine grS_none (n := 0) (q := 1) rfl (rate_none fun k hk => ?_)
      have := hrow k hk.1.1.1.1 hk.1.1.1.2
      subst this
      have h2 : x40 ≤ 1900 := hk.1.2
      rw [hl.1] at h2
      omega
    rw [this] at g
    exact g.2
  have z1 : x1 = 0 := e1.2
  have z3 : x3 = 0 := e3.2
  have z11 : x11 = 0 := e11.2
  have z19 : x19 = 0 := e19.2
  have z31 : x31 = 0 := f31.2
  have z39 : x39 = 0 := e39.2
  have z : x1 + x3 + x11 + x19 + x31 + x39 = 0 := by omega
  have rng : ∀ z : Int, z = 0 → Rng .i64 z := fun z h => by subst h; rw [rng64]; omega
  have l0 : s0.len = 2 := by rw [e1.1.1, Y0, Y366]; rfl
  have l2 : s2.len = 0 := by rw [e3.1.1, Y1, Y365]; rfl
  refine ⟨rng _ (by omega), rng _ (by omega), rng _ (by omega), rng _ (by omega), rng _ z, fun _ => ⟨fun _ => ⟨trivial, fun b52 h52 => ⟨fun _ _ => ⟨fun _ => ⟨trivial, fun b53 s54 r54 b55 s56 r56 hf1 => ⟨trivial, fun b57 h57 => ⟨fun _ => ⟨trivial, fun b58 s59 r59 b60 s61 r61 hf2 => ⟨trivial, fun b62 h62 => ⟨fun _ => ⟨trivial, fun b63 s64 r64 b65 s66 r66 hf3 => ⟨trivial, fun b67 h67 => ⟨fun _ => ⟨trivial, fun b68 s69 r69 b70 s71 r71 hf4 => ⟨trivial, fun b72 h72 => ⟨?_, trivial⟩⟩⟩, fun h => ?_⟩⟩⟩, fun h => ?_⟩⟩⟩, fun h => ?_⟩⟩⟩, fun h => absurd l2 h⟩, fun h => ?_⟩⟩, fun h => absurd e51 h⟩, fun h => absurd z h⟩
  · exact same_frac h72 e39.1 (by have := frac_is hf4 (by decide); exact this) r36 r38 r69 r71
  · exact absurd (same_frac h67 f31.1 (frac_is hf3 (by decide)) r28 r30 r64 r66) h
  · exact absurd (same_frac h62 e19.1 (frac_is hf2 (by decide)) r16 r18 r59 r61) h
  · exact absurd (same_frac h57 e11.1 (frac_is hf1 (by decide)) r8 r10 r54 r56) h
  · refine absurd (h52.2 ⟨l0, fun i i0 i1 => ?_⟩) h
    rw [e1.1.2 i i0 i1, Y0]
    have : i = 0 ∨ i = 1 := by omega
    rcases this with rfl | rfl <;> rfl

end Go.Sx.N
