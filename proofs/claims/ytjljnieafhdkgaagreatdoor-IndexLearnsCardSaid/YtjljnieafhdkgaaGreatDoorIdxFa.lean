/-
  First days of years, the years of a span: the conditions of these functions. Conditions: none.
-/
import Derived.Test.YtjljnieafhdkgaaGreatDoorNumVH
import Derived.Test.YtjljnieafhdkgaaGreatDoorNumVI
set_option linter.unusedVariables false
set_option linter.unusedSimpArgs false
namespace Go.Sx.N

theorem tdivY {x n : Int} (h : 0 ≤ x) : Int.tdiv x n = x / n := Int.tdiv_eq_ediv_of_nonneg h
theorem tmodY {x n : Int} (h : 0 ≤ x) : Int.tmod x n = x % n := Int.tmod_eq_emod_of_nonneg h
/-- A remainder is in range. -/
theorem tmod_rngY {x n : Int} (hx : Rng .i64 x) (hn : 0 < n) (hn' : n ≤ 1000000) : Rng .i64 (Int.tmod x n) := by
  rw [rng64]
  have h1 := Int.tmod_lt_of_pos x hn
  have h2 := Int.lt_tmod_of_pos x hn
  omega

theorem cLeap_ok : V_cLeap := by
  intro y ry _
  have a := tmod_rngY ry (n := 4) (by decide) (by decide)
  have b := tmod_rngY ry (n := 100) (by decide) (by decide)
  have c := tmod_rngY ry (n := 400) (by decide) (by decide)
  exact ⟨by decide, a, fun _ => ⟨by decide, b, fun _ => ⟨trivial, trivial⟩, fun _ => ⟨by decide, c, trivial, trivial⟩⟩, fun _ => ⟨trivial, trivial⟩⟩

theorem cLeaps_ok : V_cLeaps := by
  intro y ry hp
  obtain ⟨h0, h1⟩ := hp
  simp only [tdivY h0]
  refine ⟨by decide, by rw [rng64]; omega, by decide, by rw [rng64]; omega, by rw [rng64]; omega, by decide, by rw [rng64]; omega, by rw [rng64]; omega, rfl, trivial⟩

theorem cLen_ok : V_cLen := by
  intro y ry m rm _
  have fin : ¬ m < 1 → ¬ m > 12 → Rng .i64 (m - 1) ∧ (0 : Int) ≤ m - 1 ∧ m - 1 < 12 ∧ (Rng .i64 (Sl.int (Sl.lit [[(.int 31)], [(.int 28)], [(.int 31)], [(.int 30)], [(.int 31)], [(.int 30)], [(.int 31)], [(.int 31)], [(.int 30)], [(.int 31)], [(.int 30)], [(.int 31)]]) (m - 1) 0) →
      q_cLen y m (Sl.int (Sl.lit [[(.int 31)], [(.int 28)], [(.int 31)], [(.int 30)], [(.int 31)], [(.int 30)], [(.int 31)], [(.int 31)], [(.int 30)], [(.int 31)], [(.int 30)], [(.int 31)]]) (m - 1) 0) ∧ True) := fun h0 h1 =>
    ⟨by rw [rng64]; omega, by omega, by omega, fun _ => ⟨fun hm => by subst hm; rfl, trivial⟩⟩
  exact ⟨fun h => ⟨fun h2 => by omega, trivial⟩, fun h0 => ⟨fun h => ⟨fun h2 => by omega, trivial⟩, fun h1 => ⟨fun h2 => ⟨trivial, fun b _ => ⟨fun _ => ⟨fun h3 => by omega, trivial⟩, fun _ => fin h0 h1⟩⟩, fun _ => fin h0 h1⟩⟩⟩

theorem dayS_succ {y : Int} (h : 1900 ≤ y) : dayS (y + 1) = dayS y + 365 + (if y % 400 = 0 ∨ (y % 4 = 0 ∧ y % 100 ≠ 0) then 1 else 0) := by
  unfold dayS leapsS
  split <;> omega
theorem dayS_0 : dayS 1900 = 0 := by decide
theorem dayS_bd {y : Int} (h : 1900 ≤ y) (h' : y ≤ 2080) : 365 * (y - 1900) ≤ dayS y ∧ dayS y ≤ 366 * (y - 1900) := by
  unfold dayS leapsS
  omega
theorem dayS_lt {y z : Int} (h : 1900 ≤ y) (hz : y < z) : dayS y + 365 ≤ dayS z := by
  unfold dayS leapsS
  omega
theorem dayS_top {y : Int} (h : 1900 ≤ y) (h' : y ≤ 2079) : dayS y < 65536 := by
  unfold dayS leapsS
  omega

theorem cStart_ok : V_cStart := by
  intro m rm hp
  obtain ⟨h0, h1, h2⟩ := hp
  simp only [tdivY h0, tmodY h0]
  refine ⟨by decide, by rw [rng64]; omega, by rw [rng64]; omega, by rw [rng64]; omega, by rw [rng64]; omega, by rw [rng64]; omega, ⟨by omega, by omega⟩, fun x _ hx => ⟨?_, ⟨by decide, by decide⟩, fun z _ hz => ⟨?_, ?_⟩⟩⟩
  · have hx : x = leapsS (1900 + m / 12 - 1) := hx
    rw [hx, rng64]; unfold leapsS; omega
  · have hx : x = leapsS (1900 + m / 12 - 1) := hx
    have hz : z = leapsS 1899 := hz
    rw [hx, hz, rng64]; unfold leapsS; omega
  · refine ⟨fun a b => a = dayS (1900 + m / 12) ∧ b = 1, fun _ _ => 0, ⟨?_, rfl⟩, fun a _ b _ hJ => ?_⟩
    · have hx : x = leapsS (1900 + m / 12 - 1) := hx
      have hz : z = leapsS 1899 := hz
      rw [hx, hz]; unfold dayS; omega
    · obtain ⟨ha, rfl⟩ := hJ
      exact ⟨by decide, by rw [rng64]; omega, fun h => by omega, fun _ => ⟨ha, trivial⟩⟩

theorem cIsDate_ok : V_cIsDate := by
  intro d _ _
  refine ⟨fun h => ⟨?_, trivial⟩, fun h => ⟨?_, trivial⟩⟩
  · show decide (d < 65536) = true ↔ _
    rw [decide_eq_true_iff]; omega
  · show decide False = true ↔ _
    constructor
    · intro h; cases h
    · intro h2; omega

theorem cDay_ok : V_cDay := by
  intro y _ m _ d _ hp
  obtain ⟨rfl, rfl⟩ := hp
  simp only [Bool.decide_eq_true]
  refine ⟨fun h => ⟨⟨fun _ => ⟨rfl, rfl⟩, fun k => by omega⟩, trivial⟩, fun h0 => ⟨fun h => ⟨⟨fun _ => ⟨rfl, rfl⟩, fun k => by omega⟩, trivial⟩, fun h1 => ⟨fun h => by omega, fun _ => ⟨trivial, fun x _ hx => ?_⟩⟩⟩⟩
  have hx : x = 31 := hx rfl
  refine ⟨fun h => by omega, fun _ => ⟨by rw [rng64]; omega, by rw [rng64]; omega, by rw [rng64]; omega, by rw [rng64]; omega, ⟨by omega, by omega, by omega⟩, fun z _ hz => ?_⟩⟩
  have hz : z = dayS (1900 + (12 * (y - 1900) + 1 - 1) / 12) := hz
  rw [show 1900 + (12 * (y - 1900) + 1 - 1) / 12 = y by omega] at hz
  have bd := dayS_bd (y := y) (by omega) (by omega)
  have tp := dayS_top (y := y) (by omega) (by omega)
  refine ⟨by rw [rng64]; omega, by rw [rng64]; omega, trivial, fun b hb => ⟨fun h => absurd (hb.2 (by omega)) h, fun _ => ⟨⟨fun k => absurd ⟨by omega, by omega⟩ k, fun _ => ⟨by omega, rfl⟩⟩, trivial⟩⟩⟩

theorem rLeap3_ok : V_rLeap3 := by
  intro y ry hp
  have h0 : 0 ≤ y := hp
  simp only [tmodY h0]
  refine ⟨by decide, by rw [rng64]; omega, fun h => ⟨?_, trivial⟩, fun h => ⟨by decide, by rw [rng64]; omega, fun h4 => ⟨by decide, by rw [rng64]; omega, ?_, trivial⟩, fun h4 => ⟨?_, trivial⟩⟩⟩
  · show decide True = true ↔ _
    exact ⟨fun _ => .inl h, fun _ => rfl⟩
  · show decide _ = true ↔ _
    rw [decide_eq_true_iff]
    constructor
    · intro k; exact .inr ⟨h4, k⟩
    · rintro (k | k)
      · exact absurd k h
      · exact k.2
  · show decide False = true ↔ _
    constructor
    · intro k; cases k
    · rintro (k | k)
      · exact absurd k h
      · exact absurd k.1 h4

theorem isSpan_ok : V_isSpan := by
  intro a _ b _ _
  have no : ¬ spanS a b → (decide False = true ↔ spanS a b) := fun h => ⟨fun k => absurd k Bool.false_ne_true, fun k => absurd k h⟩
  refine ⟨fun h0 => ⟨fun h1 => ⟨fun h2 => ⟨?_, trivial⟩, fun h2 => ⟨no (fun k => h2 k.2.1), trivial⟩⟩, fun h1 => ⟨no (fun k => h1 k.1.2), trivial⟩⟩, fun h0 => ⟨no (fun k => h0 k.1.1), trivial⟩⟩
  show decide _ = true ↔ _
  rw [decide_eq_true_iff]
  exact ⟨fun k => ⟨⟨h0, h1⟩, h2, k⟩, fun k => k.2.2⟩

theorem rLen3_ok : V_rLen3 := by
  intro y _ m _ hp
  have hm : m = 1 := hp
  subst hm
  exact ⟨fun _ => ⟨rfl, trivial⟩, fun h => absurd rfl h⟩

theorem rDay_ok : V_rDay := by
  intro y _ m _ d _ hp
  obtain ⟨rfl, rfl⟩ := hp
  simp only [Bool.decide_eq_true]
  refine ⟨fun h => ⟨⟨fun _ => ⟨rfl, rfl⟩, fun k => by omega⟩, trivial⟩, fun h0 => ⟨fun h => ⟨⟨fun _ => ⟨rfl, rfl⟩, fun k => by omega⟩, trivial⟩, fun h1 => ⟨fun h => by omega, fun _ => ⟨fun h => by omega, fun _ => ⟨fun h => by omega, fun _ => ⟨rfl, fun x _ hx => ?_⟩⟩⟩⟩⟩⟩
  have hx : x = 31 := hx
  refine ⟨fun h => by omega, fun _ => ⟨by rw [rng64]; omega, ⟨fun a b => (1900 ≤ b ∧ b ≤ y) ∧ a = dayS b, fun _ b => (y - b).toNat, ⟨⟨by omega, by omega⟩, by rw [dayS_0]; rfl⟩, fun a _ b _ hJ => ?_⟩⟩⟩
  obtain ⟨⟨b0, b1⟩, ha⟩ := hJ
  have bd := dayS_bd (y := b) b0 (by omega)
  refine ⟨fun hlt => ⟨by rw [rng64]; omega, by show 0 ≤ b; omega, fun r hr => ?_⟩, fun hge => ?_⟩
  · have e := dayS_succ b0
    refine ⟨fun h => ?_, fun h => ?_⟩
    · rw [if_pos (hr.1 h)] at e
      exact ⟨by rw [rng64]; omega, by rw [rng64]; omega, ⟨⟨by omega, by omega⟩, by omega⟩, by show (y - (b + 1)).toNat < (y - b).toNat; omega⟩
    · rw [if_neg (fun k => h (hr.2 k))] at e
      exact ⟨by rw [rng64]; omega, ⟨⟨by omega, by omega⟩, by omega⟩, by show (y - (b + 1)).toNat < (y - b).toNat; omega⟩
  · have eb : b = y := by omega
    subst eb
    have tp := dayS_top (y := b) b0 (by omega)
    refine ⟨fun a' c => a' = dayS b ∧ c = 1, fun _ _ => 0, ⟨ha, rfl⟩, fun a' _ c _ hJ => ?_⟩
    obtain ⟨ha', rfl⟩ := hJ
    exact ⟨fun h => by omega, fun _ => ⟨fun h => by omega, fun _ => ⟨⟨fun k => absurd ⟨by omega, by omega⟩ k, fun _ => ⟨ha', rfl⟩⟩, trivial⟩⟩⟩

/-! Years of a span -/
theorem fYn_bd (x : Int) : ∀ n : Nat, 1900 ≤ fYn x n ∧ fYn x n ≤ 1900 + n
  | 0 => ⟨Int.le_refl _, by simp [fYn]⟩
  | n + 1 => by
    have ih := fYn_bd x n
    unfold fYn
    split <;> omega
theorem fYn_spec (x : Int) : ∀ (n : Nat) (y : Int), 1900 ≤ y → y < 1900 + n → (dayS y < x ↔ y < fYn x n)
  | 0, y, h, h' => by omega
  | n + 1, y, h, h' => by
    unfold fYn
    have ih := fYn_spec x n
    have bd := fYn_bd x n
    split
    · rename_i hd
      constructor
      · intro _; omega
      · intro _
        by_cases e : y = 1900 + n
        · rw [e]; exact hd
        · have := dayS_lt h (show y < 1900 + (n : Int) by omega)
          omega
    · rename_i hd
      by_cases e : y = 1900 + n
      · rw [e]
        exact ⟨fun k => absurd k hd, fun k => by omega⟩
      · exact ih y h (by omega)
theorem fY_bd (x : Int) : 1900 ≤ fY x ∧ fY x ≤ 2080 := by
  have := fYn_bd x 180
  unfold fY; omega
theorem fY_spec (x : Int) {y : Int} (h : 1900 ≤ y) (h' : y ≤ 2079) : dayS y < x ↔ y < fY x := fYn_spec x 180 y h (by omega)
/-- What was collected, up to a year. -/
def inY (a b y : Int) (s : Sl) : Prop := s.len = imax 0 (imin y (fY b) - fY a) ∧ ∀ i : Int, 0 ≤ i → i < s.len → s.int i 0 = fY a + i
theorem inY_0 (a b : Int) : inY a b 1900 Sl.nil := by
  have ba := fY_bd a
  refine ⟨?_, fun i i0 i1 => ?_⟩
  · show (0 : Int) = _
    unfold imax imin; (repeat' split) <;> omega
  · have : i < 0 := i1
    omega
theorem len_appY (s : Sl) (x : Int) : (Sl.app s (Sl.lit [[.int x]])).len = s.len + 1 := by
  show (((s.n + 1 : Nat)) : Int) = ((s.n : Nat) : Int) + 1
  omega
theorem int_appY {s : Sl} {x i : Int} (h : 0 ≤ i) (h' : i < s.len) : (Sl.app s (Sl.lit [[.int x]])).int i 0 = s.int i 0 := by
  unfold Sl.int Sl.app
  have : i.toNat < s.n := by unfold Sl.len at h'; omega
  simp only [this, if_true]
theorem int_newY {s : Sl} {x i : Int} (h : i = s.len) : (Sl.app s (Sl.lit [[.int x]])).int i 0 = x := by
  unfold Sl.int Sl.app
  have : ¬ i.toNat < s.n := by unfold Sl.len at h; omega
  have e : i.toNat - s.n = 0 := by unfold Sl.len at h; omega
  simp only [this, if_false, e]
  rfl
theorem inY_in {a b y : Int} {s : Sl} (h : inY a b y s) (y0 : 1900 ≤ y) (y1 : y ≤ 2079) (ha : ¬ dayS y < a) (hb : dayS y < b) : inY a b (y + 1) (Sl.app s (Sl.lit [[.int y]])) := by
  have h1 : fY a ≤ y := by have := (fY_spec a y0 y1); omega
  have h2 : y < fY b := (fY_spec b y0 y1).1 hb
  obtain ⟨hl, hi⟩ := h
  have e : s.len = y - fY a := by rw [hl]; unfold imax imin; (repeat' split) <;> omega
  refine ⟨?_, fun i i0 i1 => ?_⟩
  · rw [len_appY, e]; unfold imax imin; (repeat' split) <;> omega
  · rw [len_appY] at i1
    by_cases k : i < s.len
    · rw [int_appY i0 k]; exact hi i i0 k
    · rw [int_newY (by omega)]; omega
theorem inY_before {a b y : Int} {s : Sl} (h : inY a b y s) (y0 : 1900 ≤ y) (y1 : y ≤ 2079) (ha : dayS y < a) : inY a b (y + 1) s := by
  have h1 : y < fY a := (fY_spec a y0 y1).1 ha
  refine ⟨?_, h.2⟩
  rw [h.1]; unfold imax imin; (repeat' split) <;> omega
theorem inY_behind {a b y : Int} {s : Sl} (h : inY a b y s) (y0 : 1900 ≤ y) (y1 : y ≤ 2079) (hb : ¬ dayS y < b) : yearsS a b s := by
  have h1 : fY b ≤ y := by have := (fY_spec b y0 y1); omega
  refine ⟨?_, h.2⟩
  rw [h.1]; unfold imax imin; (repeat' split) <;> omega
theorem inY_end {a b y : Int} {s : Sl} (h : inY a b y s) (y1 : 2080 ≤ y) : yearsS a b s := by
  have bb := fY_bd b
  refine ⟨?_, h.2⟩
  rw [h.1]; unfold imax imin; (repeat' split) <;> omega
theorem inY_len {a b y : Int} {s : Sl} (h : inY a b y s) : s.len ≤ 180 := by
  have ba := fY_bd a
  have bb := fY_bd b
  rw [h.1]; unfold imax imin; (repeat' split) <;> omega

theorem xYears_ok : V_xYears := by
  intro a _ b _ _
  simp only [Bool.decide_eq_true]
  refine ⟨trivial, fun c hc => ⟨fun h => ⟨⟨fun _ => ⟨rfl, rfl⟩, fun k => absurd (hc.2 k) h⟩, trivial⟩, fun h => ?_⟩⟩
  have hs : spanS a b := hc.1 (Classical.not_not.1 h)
  have fin : ∀ s, yearsS a b s → q_xYears a b s 0 ∧ True := fun s k => ⟨⟨fun g => absurd hs g, fun _ => ⟨k, rfl⟩⟩, trivial⟩
  refine ⟨fun y s => (1900 ≤ y ∧ y ≤ 2080) ∧ inY a b y s, fun y _ => (2080 - y).toNat, ⟨⟨by omega, by omega⟩, inY_0 a b⟩, fun y _ s _ hJ => ?_⟩
  obtain ⟨⟨y0, y1⟩, hi⟩ := hJ
  refine ⟨⟨rfl, rfl⟩, fun d _ e _ hd => ⟨fun he => fin s (inY_end hi ?_), fun he => ?_⟩⟩
  · rcases Int.lt_or_le y 2080 with k | k
    · exact absurd (hd.2 ⟨y0, by omega⟩).2 he
    · exact k
  have y2 : y ≤ 2079 := by
    rcases Int.lt_or_le y 2080 with k | k
    · omega
    · have := (hd.1 (by omega)).2; omega
  have hdd : d = dayS y := (hd.2 ⟨y0, y2⟩).1
  refine ⟨fun h2 => fin s (inY_behind hi y0 y2 (by omega)), fun h2 => ⟨fun h3 => ⟨?_, by rw [rng64]; omega, ⟨⟨by omega, by omega⟩, inY_in hi y0 y2 (by omega) (by omega)⟩, by show (2080 - (y + 1)).toNat < (2080 - y).toNat; omega⟩,
    fun h3 => ⟨by rw [rng64]; omega, ⟨⟨by omega, by omega⟩, inY_before hi y0 y2 (by omega)⟩, by show (2080 - (y + 1)).toNat < (2080 - y).toNat; omega⟩⟩⟩
  have := inY_len hi
  show (s.len + 1) * 8 ≤ 140737488355328
  omega

theorem rYears_ok : V_rYears := by
  intro a _ b _ _
  have no : ¬ spanS a b → q_rYears a b Sl.nil 2 ∧ True := fun h => ⟨⟨fun _ => ⟨rfl, rfl⟩, fun k => absurd k h⟩, trivial⟩
  refine ⟨fun h => no (fun k => by have := k.1.1; omega), fun h0 => ⟨fun h => no (fun k => by have := k.1.2; omega), fun h1 => ⟨fun h => no (fun k => by have := k.2.1; omega), fun h2 => ⟨fun h => no (fun k => by have := k.2.2; omega), fun h3 => ?_⟩⟩⟩⟩
  have hs : spanS a b := ⟨⟨by omega, by omega⟩, by omega, by omega⟩
  refine ⟨fun s y => (1900 ≤ y ∧ y ≤ 2080) ∧ ((∃ z, z ≤ y ∧ yearsS a b s ∧ (∀ w, z ≤ w → w ≤ 2079 → ¬ dayS w < b)) ∨ inY a b y s), fun _ y => (2080 - y).toNat, ⟨⟨by omega, by omega⟩, .inr (inY_0 a b)⟩, fun s _ y _ hJ => ?_⟩
  obtain ⟨⟨y0, y1⟩, hi⟩ := hJ
  refine ⟨fun hle => ⟨⟨rfl, rfl⟩, fun d _ e _ hd => ?_⟩, fun hgt => ⟨⟨fun g => absurd hs g, fun _ => ⟨?_, rfl⟩⟩, trivial⟩⟩
  · have hdd : d = dayS y := (hd.2 ⟨y0, hle⟩).1
    have same : ¬ (¬ d < a ∧ d < b) → Rng .i64 (y + 1) ∧ ((1900 ≤ y + 1 ∧ y + 1 ≤ 2080) ∧ ((∃ z, z ≤ y + 1 ∧ yearsS a b s ∧ (∀ w, z ≤ w → w ≤ 2079 → ¬ dayS w < b)) ∨ inY a b (y + 1) s)) ∧ (2080 - (y + 1)).toNat < (2080 - y).toNat := fun h => by
      refine ⟨by rw [rng64]; omega, ⟨⟨by omega, by omega⟩, ?_⟩, by omega⟩
      rcases hi with ⟨z, z0, z1, z2⟩ | hi
      · exact .inl ⟨z, by omega, z1, z2⟩
      · by_cases hb : dayS y < b
        · exact .inr (inY_before hi y0 hle (by omega))
        · refine .inl ⟨y, by omega, inY_behind hi y0 hle hb, fun w w0 w1 => ?_⟩
          by_cases e : w = y
          · rw [e]; exact hb
          · have := dayS_lt y0 (show y < w by omega); omega
    refine ⟨fun h4 => ⟨fun h5 => ?_, fun h5 => same (fun k => h5 k.2)⟩, fun h4 => same (fun k => h4 (by omega))⟩
    rcases hi with ⟨z, z0, z1, z2⟩ | hi
    · exact absurd (by omega) (z2 y z0 hle)
    · have := inY_len hi
      exact ⟨by show (s.len + 1) * 8 ≤ 140737488355328; omega, by rw [rng64]; omega, ⟨⟨by omega, by omega⟩, .inr (inY_in hi y0 hle (by omega) (by omega))⟩, by show (2080 - (y + 1)).toNat < (2080 - y).toNat; omega⟩
  · rcases hi with ⟨z, z0, z1, z2⟩ | hi
    · exact z1
    · exact inY_end hi (by omega)

theorem kSameInts_ok : V_kSameInts := by
  intro s _ t _ _ _ _
  have no : ¬ SameI s t → q_kSameInts s t (decide False) ∧ True := fun h => ⟨⟨fun k => absurd k Bool.false_ne_true, fun k => absurd k h⟩, trivial⟩
  refine ⟨fun h => no (fun k => h k.1), fun hl => ?_⟩
  have hl : s.len = t.len := Classical.not_not.1 hl
  refine ⟨fun i => 0 ≤ i ∧ ∀ j : Int, 0 ≤ j → j < i → s.int j 0 = t.int j 0, fun i => (s.len - i).toNat, ⟨Int.le_refl _, fun j _ _ => by omega⟩, fun i _ hJ _ => ?_⟩
  obtain ⟨i0, hi⟩ := hJ
  refine ⟨fun hlt => ⟨i0, hlt, fun _ => ⟨i0, by omega, fun _ => ⟨fun h => no (fun k => h (k.2 i i0 hlt)), fun h => ⟨?_, ⟨by omega, fun j j0 j1 => ?_⟩, by show (s.len - (i + 1)).toNat < (s.len - i).toNat; omega⟩⟩⟩⟩, fun hge => ⟨⟨fun _ => ⟨hl, fun j j0 j1 => hi j j0 (by omega)⟩, fun _ => rfl⟩, trivial⟩⟩
  · rename_i h1 h2 _ _ _
    have := small64 (s := s) (by assumption)
    rw [rng64]; omega
  · by_cases e : j = i
    · rw [e]; exact Classical.not_not.1 h
    · exact hi j j0 (by omega)

theorem yearsL_ok : V_yearsL := by
  intro a _ b _ _
  simp only [Bool.decide_eq_true]
  refine ⟨trivial, fun s _ e _ h => ⟨trivial, fun t _ f _ g => ?_⟩⟩
  have key : e = f ∧ SameI s t := by
    by_cases hs : spanS a b
    · obtain ⟨h1, h2⟩ := h.2 hs
      obtain ⟨g1, g2⟩ := g.2 hs
      exact ⟨by omega, by rw [h1.1, g1.1], fun i i0 i1 => by rw [h1.2 i i0 i1, g1.2 i i0 (by rw [g1.1, ← h1.1]; exact i1)]⟩
    · obtain ⟨h1, h2⟩ := h.1 hs
      obtain ⟨g1, g2⟩ := g.1 hs
      exact ⟨by omega, by omega, fun i i0 i1 => by omega⟩
  exact ⟨fun _ => ⟨trivial, fun r hr => ⟨hr.2 key.2, trivial⟩⟩, fun h => absurd key.1 h⟩

end Go.Sx.N
