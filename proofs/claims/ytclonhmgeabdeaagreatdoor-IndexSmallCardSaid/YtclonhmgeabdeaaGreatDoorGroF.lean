/-
 Several texts in one. Conditions: none.
-/
import Derived.Test.YtclonhmgeabdeaaGreatDoorNumVH
import Derived.Test.YtclonhmgeabdeaaGreatDoorNumVI
import Derived.Test.YtclonhmgeabdeaaGreatDoorGroT
set_option linter.unusedVariables false
set_option linter.unusedSimpArgs false
namespace Go.Sx.N
theorem tdivY {x n : Int} (h : 0 <= x) : Int.tdiv x n = x / n := Int.tdiv_eq_ediv_of_nonneg h
theorem tmodY {x n : Int} (h : 0 <= x) : Int.tmod x n = x % n := Int.tmod_eq_emod_of_nonneg h
theorem tmod_rngY {x n : Int} (hx : Rng .i64 x) (hn : 0 < n) (hn' : n <= 1000000) : Rng .i64 (Int.tmod x n) := by
 rw [rng64]
 have h1 := Int.tmod_lt_of_pos x hn
 have h2 := Int.lt_tmod_of_pos x hn
 omega
theorem cLeap_ok : V_cLeap := by
 intro y ry _
 have a := tmod_rngY ry (n := 4) (by decide) (by decide)
 have b := tmod_rngY ry (n := 100) (by decide) (by decide)
 have c := tmod_rngY ry (n := 400) (by decide) (by decide)
 exact ⟨by decide, a, fun _ => ⟨by decide, b, fun _ => ⟨trivial, trivial⟩, fun _ => ⟨by decide, c, trivial, trivial⟩⟩, fun _ => ⟨trivial, trivial⟩⟩
theorem cLeaps_ok : V_cLeaps := by
 intro y ry hp
 obtain ⟨h0, h1⟩ := hp
 simp only [tdivY h0]
 refine ⟨by decide, by rw [rng64]; omega, by decide, by rw [rng64]; omega, by rw [rng64]; omega, by decide, by rw [rng64]; omega, by rw [rng64]; omega, rfl, trivial⟩
theorem cLen_ok : V_cLen := by
 intro y ry m rm _
 have fin : ¬ m < 1 -> ¬ m > 12 -> Rng .i64 (m - 1) /\ (0 : Int) <= m - 1 /\ m - 1 < 12 /\ (Rng .i64 (Sl.int (Sl.lit [[(.int 31)], [(.int 28)], [(.int 31)], [(.int 30)], [(.int 31)], [(.int 30)], [(.int 31)], [(.int 31)], [(.int 30)], [(.int 31)], [(.int 30)], [(.int 31)]]) (m - 1) 0) ->
   q_cLen y m (Sl.int (Sl.lit [[(.int 31)], [(.int 28)], [(.int 31)], [(.int 30)], [(.int 31)], [(.int 30)], [(.int 31)], [(.int 31)], [(.int 30)], [(.int 31)], [(.int 30)], [(.int 31)]]) (m - 1) 0) /\ True) := fun h0 h1 =>
  ⟨by rw [rng64]; omega, by omega, by omega, fun _ => ⟨fun hm => by subst hm; rfl, trivial⟩⟩
 exact ⟨fun h => ⟨fun h2 => by omega, trivial⟩, fun h0 => ⟨fun h => ⟨fun h2 => by omega, trivial⟩, fun h1 => ⟨fun h2 => ⟨trivial, fun b _ => ⟨fun _ => ⟨fun h3 => by omega, trivial⟩, fun _ => fin h0 h1⟩⟩, fun _ => fin h0 h1⟩⟩⟩
theorem dayS_succ {y : Int} (h : 1900 <= y) : dayS (y + 1) = dayS y + 365 + (if y % 400 = 0 \/ (y % 4 = 0 /\ y % 100 ≠ 0) then 1 else 0) := by
 unfold dayS leapsS
 split <;> omega
theorem dayS_0 : dayS 1900 = 0 := by decide
theorem dayS_bd {y : Int} (h : 1900 <= y) (h' : y <= 2080) : 365 * (y - 1900) <= dayS y /\ dayS y <= 366 * (y - 1900) := by
 unfold dayS leapsS
 omega
theorem dayS_lt {y z : Int} (h : 1900 <= y) (hz : y < z) : dayS y + 365 <= dayS z := by
 unfold dayS leapsS
 omega
theorem dayS_top {y : Int} (h : 1900 <= y) (h' : y <= 2079) : dayS y < 65536 := by
 unfold dayS leapsS
 omega
theorem cStart_ok : V_cStart := by
 intro m rm hp
 obtain ⟨h0, h1, h2⟩ := hp
 simp only [tdivY h0, tmodY h0]
 refine ⟨by decide, by rw [rng64]; omega, by rw [rng64]; omega, by rw [rng64]; omega, by rw [rng64]; omega, by rw [rng64]; omega, ⟨by omega, by omega⟩, fun x _ hx => ⟨?_, ⟨by decide, by decide⟩, fun z _ hz => ⟨?_, ?_⟩⟩⟩
 ·have hx : x = leapsS (1900 + m / 12 - 1) := hx
  rw [hx, rng64]; unfold leapsS; omega
 ·have hx : x = leapsS (1900 + m / 12 - 1) := hx
  have hz : z = leapsS 1899 := hz
  rw [hx, hz, rng64]; unfold leapsS; omega
 ·refine ⟨fun a b => a = dayS (1900 + m / 12) /\ b = 1, fun _ _ => 0, ⟨?_, rfl⟩, fun a _ b _ hJ => ?_⟩
  ·have hx : x = leapsS (1900 + m / 12 - 1) := hx
   have hz : z = leapsS 1899 := hz
   rw [hx, hz]; unfold dayS; omega
  ·obtain ⟨ha, rfl⟩ := hJ
   exact ⟨by decide, by rw [rng64]; omega, fun h => by omega, fun _ => ⟨ha, trivial⟩⟩
theorem cIsDate_ok : V_cIsDate := by
 intro d _ _
 refine ⟨fun h => ⟨?_, trivial⟩, fun h => ⟨?_, trivial⟩⟩
 ·show decide (d < 65536) = true ↔ _
  rw [decide_eq_true_iff]; omega
 ·show decide False = true ↔ _
  constructor
  ·intro h; cases h
  ·intro h2; omega
theorem cDay_ok : V_cDay := by
 intro y _ m _ d _ hp
 obtain ⟨rfl, rfl⟩ := hp
 simp only [Bool.decide_eq_true]
 refine ⟨fun h => ⟨⟨fun _ => ⟨rfl, rfl⟩, fun k => by omega⟩, trivial⟩, fun h0 => ⟨fun h => ⟨⟨fun _ => ⟨rfl, rfl⟩, fun k => by omega⟩, trivial⟩, fun h1 => ⟨fun h => by omega, fun _ => ⟨trivial, fun x _ hx => ?_⟩⟩⟩⟩
 have hx : x = 31 := hx rfl
 refine ⟨fun h => by omega, fun _ => ⟨by rw [rng64]; omega, by rw [rng64]; omega, by rw [rng64]; omega, by rw [rng64]; omega, ⟨by omega, by omega, by omega⟩, fun z _ hz => ?_⟩⟩
 have hz : z = dayS (1900 + (12 * (y - 1900) + 1 - 1) / 12) := hz
 rw [show 1900 + (12 * (y - 1900) + 1 - 1) / 12 = y by omega] at hz
 have bd := dayS_bd (y := y) (by omega) (by omega)
 have tp := dayS_top (y := y) (by omega) (by omega)
 refine ⟨by rw [rng64]; omega, by rw [rng64]; omega, trivial, fun b hb => ⟨fun h => absurd (hb.2 (by omega)) h, fun _ => ⟨⟨fun k => absurd ⟨by omega, by omega⟩ k, fun _ => ⟨by omega, rfl⟩⟩, trivial⟩⟩⟩
theorem rLeap3_ok : V_rLeap3 := by
 intro y ry hp
 have h0 : 0 <= y := hp
 simp only [tmodY h0]
 refine ⟨by decide, by rw [rng64]; omega, fun h => ⟨?_, trivial⟩, fun h => ⟨by decide, by rw [rng64]; omega, fun h4 => ⟨by decide, by rw [rng64]; omega, ?_, trivial⟩, fun h4 => ⟨?_, trivial⟩⟩⟩
 ·show decide True = true ↔ _
  exact ⟨fun _ => .inl h, fun _ => rfl⟩
 ·show decide _ = true ↔ _
  rw [decide_eq_true_iff]
  constructor
  ·intro k; exact .inr ⟨h4, k⟩
  ·rintro (k | k)
   ·exact absurd k h
   ·exact k.2
 ·show decide False = true ↔ _
  constructor
  ·intro k; cases k
  ·rintro (k | k)
   ·exact absurd k h
   ·exact absurd k.1 h4
theorem isSpan_ok : V_isSpan := by
 intro a _ b _ _
 have no : ¬ spanS a b -> (decide False = true ↔ spanS a b) := fun h => ⟨fun k => absurd k Bool.false_ne_true, fun k => absurd k h⟩
 refine ⟨fun h0 => ⟨fun h1 => ⟨fun h2 => ⟨?_, trivial⟩, fun h2 => ⟨no (fun k => h2 k.2.1), trivial⟩⟩, fun h1 => ⟨no (fun k => h1 k.1.2), trivial⟩⟩, fun h0 => ⟨no (fun k => h0 k.1.1), trivial⟩⟩
 show decide _ = true ↔ _
 rw [decide_eq_true_iff]
 exact ⟨fun k => ⟨⟨h0, h1⟩, h2, k⟩, fun k => k.2.2⟩
theorem rLen3_ok : V_rLen3 := by
 intro y _ m _ hp
 have hm : m = 1 := hp
 subst hm
 exact ⟨fun _ => ⟨rfl, trivial⟩, fun h => absurd rfl h⟩
theorem rDay_ok : V_rDay := by
 intro y _ m _ d _ hp
 obtain ⟨rfl, rfl⟩ := hp
 simp only [Bool.decide_eq_true]
 refine ⟨fun h => ⟨⟨fun _ => ⟨rfl, rfl⟩, fun k => by omega⟩, trivial⟩, fun h0 => ⟨fun h => ⟨⟨fun _ => ⟨rfl, rfl⟩, fun k => by omega⟩, trivial⟩, fun h1 => ⟨fun h => by omega, fun _ => ⟨fun h => by omega, fun _ => ⟨fun h => by omega, fun _ => ⟨rfl, fun x _ hx => ?_⟩⟩⟩⟩⟩⟩
 have hx : x = 31 := hx
 refine ⟨fun h => by omega, fun _ => ⟨by rw [rng64]; omega, ⟨fun a b => (1900 <= b /\ b <= y) /\ a = dayS b, fun _ b => (y - b).toNat, ⟨⟨by omega, by omega⟩, by rw [dayS_0]; rfl⟩, fun a _ b _ hJ => ?_⟩⟩⟩
 obtain ⟨⟨b0, b1⟩, ha⟩ := hJ
 have bd := dayS_bd (y := b) b0 (by omega)
 refine ⟨fun hlt => ⟨by rw [rng64]; omega, by show 0 <= b; omega, fun r hr => ?_⟩, fun hge => ?_⟩
 ·have e := dayS_succ b0
  refine ⟨fun h => ?_, fun h => ?_⟩
  ·rw [if_pos (hr.1 h)] at e
   exact ⟨by rw [rng64]; omega, by rw [rng64]; omega, ⟨⟨by omega, by omega⟩, by omega⟩, by show (y - (b + 1)).toNat < (y - b).toNat; omega⟩
  ·rw [if_neg (fun k => h (hr.2 k))] at e
   exact ⟨by rw [rng64]; omega, ⟨⟨by omega, by omega⟩, by omega⟩, by show (y - (b + 1)).toNat < (y - b).toNat; omega⟩
 ·have eb : b = y := by omega
  subst eb
  have tp := dayS_top (y := b) b0 (by omega)
  refine ⟨fun a' c => a' = dayS b /\ c = 1, fun _ _ => 0, ⟨ha, rfl⟩, fun a' _ c _ hJ => ?_⟩
  obtain ⟨ha', rfl⟩ := hJ
  exact ⟨fun h => by omega, fun _ => ⟨fun h => by omega, fun _ => ⟨⟨fun k => absurd ⟨by omega, by omega⟩ k, fun _ => ⟨ha', rfl⟩⟩, trivial⟩⟩⟩
theorem fYn_bd (x : Int) : ∀ n : Nat, 1900 <= fYn x n /\ fYn x n <= 1900 + n
 | 0 => ⟨Int.le_refl _, by simp [fYn]⟩
 | n + 1 => by
  have ih := fYn_bd x n
  unfold fYn
  split <;> omega
theorem fYn_spec (x : Int) : ∀ (n : Nat) (y : Int), 1900 <= y -> y < 1900 + n -> (dayS y < x ↔ y < fYn x n)
 | 0, y, h, h' => by omega
 | n + 1, y, h, h' => by
  unfold fYn
  have ih := fYn_spec x n
  have bd := fYn_bd x n
  split
  ·rename_i hd
   constructor
   ·intro _; omega
   ·intro _
    by_cases e : y = 1900 + n
    ·rw [e]; exact hd
    ·have := dayS_lt h (show y < 1900 + (n : Int) by omega)
     omega
  ·rename_i hd
   by_cases e : y = 1900 + n
   ·rw [e]
    exact ⟨fun k => absurd k hd, fun k => by omega⟩
   ·exact ih y h (by omega)
theorem fY_bd (x : Int) : 1900 <= fY x /\ fY x <= 2080 := by
 have := fYn_bd x 180
 unfold fY; omega
theorem fY_spec (x : Int) {y : Int} (h : 1900 <= y) (h' : y <= 2079) : dayS y < x ↔ y < fY x := fYn_spec x 180 y h (by omega)
def inY (a b y : Int) (s : Sl) : Prop := s.len = imax 0 (imin y (fY b) - fY a) /\ ∀ i : Int, 0 <= i -> i < s.len -> s.int i 0 = fY a + i
theorem inY_0 (a b : Int) : inY a b 1900 Sl.nil := by
 have ba := fY_bd a
 refine ⟨?_, fun i i0 i1 => ?_⟩
 ·show (0 : Int) = _
  unfold imax imin; (repeat' split) <;> omega
 ·have : i < 0 := i1
  omega
theorem len_appY (s : Sl) (x : Int) : (Sl.app s (Sl.lit [[.int x]])).len = s.len + 1 := by
 show (((s.n + 1 : Nat)) : Int) = ((s.n : Nat) : Int) + 1
 omega
theorem int_appY {s : Sl} {x i : Int} (h : 0 <= i) (h' : i < s.len) : (Sl.app s (Sl.lit [[.int x]])).int i 0 = s.int i 0 := by
 unfold Sl.int Sl.app
 have : i.toNat < s.n := by unfold Sl.len at h'; omega
 simp only [this, if_true]
theorem int_newY {s : Sl} {x i : Int} (h : i = s.len) : (Sl.app s (Sl.lit [[.int x]])).int i 0 = x := by
 unfold Sl.int Sl.app
 have : ¬ i.toNat < s.n := by unfold Sl.len at h; omega
 have e : i.toNat - s.n = 0 := by unfold Sl.len at h; omega
 simp only [this, if_false, e]
 rfl
theorem inY_in {a b y : Int} {s : Sl} (h : inY a b y s) (y0 : 1900 <= y) (y1 : y <= 2079) (ha : ¬ dayS y < a) (hb : dayS y < b) : inY a b (y + 1) (Sl.app s (Sl.lit [[.int y]])) := by
 have h1 : fY a <= y := by have := (fY_spec a y0 y1); omega
 have h2 : y < fY b := (fY_spec b y0 y1).1 hb
 obtain ⟨hl, hi⟩ := h
 have e : s.len = y - fY a := by rw [hl]; unfold imax imin; (repeat' split) <;> omega
 refine ⟨?_, fun i i0 i1 => ?_⟩
 ·rw [len_appY, e]; unfold imax imin; (repeat' split) <;> omega
 ·rw [len_appY] at i1
  by_cases k : i < s.len
  ·rw [int_appY i0 k]; exact hi i i0 k
  ·rw [int_newY (by omega)]; omega
theorem inY_before {a b y : Int} {s : Sl} (h : inY a b y s) (y0 : 1900 <= y) (y1 : y <= 2079) (ha : dayS y < a) : inY a b (y + 1) s := by
 have h1 : y < fY a := (fY_spec a y0 y1).1 ha
 refine ⟨?_, h.2⟩
 rw [h.1]; unfold imax imin; (repeat' split) <;> omega
theorem inY_behind {a b y : Int} {s : Sl} (h : inY a b y s) (y0 : 1900 <= y) (y1 : y <= 2079) (hb : ¬ dayS y < b) : yearsS a b s := by
 have h1 : fY b <= y := by have := (fY_spec b y0 y1); omega
 refine ⟨?_, h.2⟩
 rw [h.1]; unfold imax imin; (repeat' split) <;> omega
theorem inY_end {a b y : Int} {s : Sl} (h : inY a b y s) (y1 : 2080 <= y) : yearsS a b s := by
 have bb := fY_bd b
 refine ⟨?_, h.2⟩
 rw [h.1]; unfold imax imin; (repeat' split) <;> omega
theorem inY_len {a b y : Int} {s : Sl} (h : inY a b y s) : s.len <= 180 := by
 have ba := fY_bd a
 have bb := fY_bd b
 rw [h.1]; unfold imax imin; (repeat' split) <;> omega
theorem xYears_ok : V_xYears := by
 intro a _ b _ _
 simp only [Bool.decide_eq_true]
 refine ⟨trivial, fun c hc => ⟨fun h => ⟨⟨fun _ => ⟨rfl, rfl⟩, fun k => absurd (hc.2 k) h⟩, trivial⟩, fun h => ?_⟩⟩
 have hs : spanS a b := hc.1 (Classical.not_not.1 h)
 have fin : ∀ s, yearsS a b s -> q_xYears a b s 0 /\ True := fun s k => ⟨⟨fun g => absurd hs g, fun _ => ⟨k, rfl⟩⟩, trivial⟩
 refine ⟨fun y s => (1900 <= y /\ y <= 2080) /\ inY a b y s, fun y _ => (2080 - y).toNat, ⟨⟨by omega, by omega⟩, inY_0 a b⟩, fun y _ s _ hJ => ?_⟩
 obtain ⟨⟨y0, y1⟩, hi⟩ := hJ
 refine ⟨⟨rfl, rfl⟩, fun d _ e _ hd => ⟨fun he => fin s (inY_end hi ?_), fun he => ?_⟩⟩
 ·rcases Int.lt_or_le y 2080 with k | k
  ·exact absurd (hd.2 ⟨y0, by omega⟩).2 he
  ·exact k
 have y2 : y <= 2079 := by
  rcases Int.lt_or_le y 2080 with k | k
  ·omega
  ·have := (hd.1 (by omega)).2; omega
 have hdd : d = dayS y := (hd.2 ⟨y0, y2⟩).1
 refine ⟨fun h2 => fin s (inY_behind hi y0 y2 (by omega)), fun h2 => ⟨fun h3 => ⟨?_, by rw [rng64]; omega, ⟨⟨by omega, by omega⟩, inY_in hi y0 y2 (by omega) (by omega)⟩, by show (2080 - (y + 1)).toNat < (2080 - y).toNat; omega⟩,
  fun h3 => ⟨by rw [rng64]; omega, ⟨⟨by omega, by omega⟩, inY_before hi y0 y2 (by omega)⟩, by show (2080 - (y + 1)).toNat < (2080 - y).toNat; omega⟩⟩⟩
 have := inY_len hi
 show (s.len + 1) * 8 <= 140737488355328
 omega
theorem rYears_ok : V_rYears := by
 intro a _ b _ _
 have no : ¬ spanS a b -> q_rYears a b Sl.nil 2 /\ True := fun h => ⟨⟨fun _ => ⟨rfl, rfl⟩, fun k => absurd k h⟩, trivial⟩
 refine ⟨fun h => no (fun k => by have := k.1.1; omega), fun h0 => ⟨fun h => no (fun k => by have := k.1.2; omega), fun h1 => ⟨fun h => no (fun k => by have := k.2.1; omega), fun h2 => ⟨fun h => no (fun k => by have := k.2.2; omega), fun h3 => ?_⟩⟩⟩⟩
 have hs : spanS a b := ⟨⟨by omega, by omega⟩, by omega, by omega⟩
 refine ⟨fun s y => (1900 <= y /\ y <= 2080) /\ ((∃ z, z <= y /\ yearsS a b s /\ (∀ w, z <= w -> w <= 2079 -> ¬ dayS w < b)) \/ inY a b y s), fun _ y => (2080 - y).toNat, ⟨⟨by omega, by omega⟩, .inr (inY_0 a b)⟩, fun s _ y _ hJ => ?_⟩
 obtain ⟨⟨y0, y1⟩, hi⟩ := hJ
 refine ⟨fun hle => ⟨⟨rfl, rfl⟩, fun d _ e _ hd => ?_⟩, fun hgt => ⟨⟨fun g => absurd hs g, fun _ => ⟨?_, rfl⟩⟩, trivial⟩⟩
 ·have hdd : d = dayS y := (hd.2 ⟨y0, hle⟩).1
  have same : ¬ (¬ d < a /\ d < b) -> Rng .i64 (y + 1) /\ ((1900 <= y + 1 /\ y + 1 <= 2080) /\ ((∃ z, z <= y + 1 /\ yearsS a b s /\ (∀ w, z <= w -> w <= 2079 -> ¬ dayS w < b)) \/ inY a b (y + 1) s)) /\ (2080 - (y + 1)).toNat < (2080 - y).toNat := fun h => by
   refine ⟨by rw [rng64]; omega, ⟨⟨by omega, by omega⟩, ?_⟩, by omega⟩
   rcases hi with ⟨z, z0, z1, z2⟩ | hi
   ·exact .inl ⟨z, by omega, z1, z2⟩
   ·by_cases hb : dayS y < b
    ·exact .inr (inY_before hi y0 hle (by omega))
    ·refine .inl ⟨y, by omega, inY_behind hi y0 hle hb, fun w w0 w1 => ?_⟩
     by_cases e : w = y
     ·rw [e]; exact hb
     ·have := dayS_lt y0 (show y < w by omega); omega
  refine ⟨fun h4 => ⟨fun h5 => ?_, fun h5 => same (fun k => h5 k.2)⟩, fun h4 => same (fun k => h4 (by omega))⟩
  rcases hi with ⟨z, z0, z1, z2⟩ | hi
  ·exact absurd (by omega) (z2 y z0 hle)
  ·have := inY_len hi
   exact ⟨by show (s.len + 1) * 8 <= 140737488355328; omega, by rw [rng64]; omega, ⟨⟨by omega, by omega⟩, .inr (inY_in hi y0 hle (by omega) (by omega))⟩, by show (2080 - (y + 1)).toNat < (2080 - y).toNat; omega⟩
 ·rcases hi with ⟨z, z0, z1, z2⟩ | hi
  ·exact z1
  ·exact inY_end hi (by omega)
theorem kSameInts_ok : V_kSameInts := by
 intro s _ t _ _ _ _
 have no : ¬ SameI s t -> q_kSameInts s t (decide False) /\ True := fun h => ⟨⟨fun k => absurd k Bool.false_ne_true, fun k => absurd k h⟩, trivial⟩
 refine ⟨fun h => no (fun k => h k.1), fun hl => ?_⟩
 have hl : s.len = t.len := Classical.not_not.1 hl
 refine ⟨fun i => 0 <= i /\ ∀ j : Int, 0 <= j -> j < i -> s.int j 0 = t.int j 0, fun i => (s.len - i).toNat, ⟨Int.le_refl _, fun j _ _ => by omega⟩, fun i _ hJ _ => ?_⟩
 obtain ⟨i0, hi⟩ := hJ
 refine ⟨fun hlt => ⟨i0, hlt, fun _ => ⟨i0, by omega, fun _ => ⟨fun h => no (fun k => h (k.2 i i0 hlt)), fun h => ⟨?_, ⟨by omega, fun j j0 j1 => ?_⟩, by show (s.len - (i + 1)).toNat < (s.len - i).toNat; omega⟩⟩⟩⟩, fun hge => ⟨⟨fun _ => ⟨hl, fun j j0 j1 => hi j j0 (by omega)⟩, fun _ => rfl⟩, trivial⟩⟩
 ·rename_i h1 h2 _ _ _
  have := small64 (s := s) (by assumption)
  rw [rng64]; omega
 ·by_cases e : j = i
  ·rw [e]; exact Classical.not_not.1 h
  ·exact hi j j0 (by omega)
end Go.Sx.N
set_option linter.unusedVariables false
set_option linter.unusedSimpArgs false
namespace Go.Sx.N
theorem look_at {ok : Prop} {C : Int -> Prop} {s : Sl} {a c : Bool} {b d : Sl} {e k : Int} (h : lookR ok C s a b c d e) (hok : ok) (hk : C k) : rowF s k a b c d /\ e = 0 := (h.2 hok).2 k hk
theorem look_no {ok : Prop} {C : Int -> Prop} {s : Sl} {a c : Bool} {b d : Sl} {e : Int} (h : lookR ok C s a b c d e) (hok : ok) (hk : ∀ k, ¬ C k) : zeroF a b c d /\ e = 6 := (h.2 hok).1 hk
theorem force_uniq {s : Sl} {known i j : Int} (h : inForce s known i) (g : inForce s known j) (e0 : s.int i 0 = s.int j 0) (e1 : s.int i 1 = s.int j 1) : i = j := by
 rcases Int.lt_trichotomy i j with c | c | c
 ·have := h.2.2 j c g.1.2 e0.symm e1.symm
  have := g.2.1
  omega
 ·exact c
 ·have := g.2.2 i c h.1.2 e0 e1
  have := h.2.1
  omega
theorem one_fit : fitQ 1 := by
 have c : cap256 = ((65536 ^ 256 : Nat) : Int) := by rw [cap256_eq]; exact (Int.natCast_pow 65536 256).symm
 have one : ((1 : Nat) : Int) < cap256 := by rw [c]; exact Int.ofNat_lt.2 (by decide)
 exact ⟨one, one⟩
theorem look_rate {ok : Prop} {s : Sl} {y known : Int} {a c : Bool} {b d : Sl} {e : Int} (h : lookR ok (candX s y known) s a b c d e) (hok : ok) (hr : ∀ i : Int, 0 <= i -> i < s.len -> okF (s.bool i 3) (s.sub i 4) (s.bool i 5) (s.sub i 6))
  (rb : Ranged b [some .u16]) (rd : Ranged d [some .u16]) : (rateO s known y = none /\ zeroF a b c d /\ e = 6) \/ (∃ r, rateO s known y = some r /\ IsQ r a b c d /\ fitQ r /\ okF a b c d /\ e = 0) := by
 by_cases hk : ∃ k, candX s y known k
 ·right
  have hc := Classical.choose_spec hk
  obtain ⟨hrow, he⟩ := look_at h hok hc
  have hok2 := hr _ hc.1.1.1.1 hc.1.1.1.2
  refine ⟨fq (s.bool (Classical.choose hk) 3) (s.sub (Classical.choose hk) 4) (s.sub (Classical.choose hk) 6), by unfold rateO; rw [dif_pos hk], ?_, ?_, ?_, he⟩
  ·exact hok2.isQ.of_same hrow.1.1.symm ⟨hrow.1.2.1.symm, fun i i0 i1 => (hrow.1.2.2 i i0 (by rw [hrow.1.2.1]; exact i1)).symm⟩ hrow.2.1.symm ⟨hrow.2.2.1.symm, fun i i0 i1 => (hrow.2.2.2 i i0 (by rw [hrow.2.2.1]; exact i1)).symm⟩
  ·have hv : IsQ (fq (s.bool (Classical.choose hk) 3) (s.sub (Classical.choose hk) 4) (s.sub (Classical.choose hk) 6)) a b c d := hok2.isQ.of_same hrow.1.1.symm ⟨hrow.1.2.1.symm, fun i i0 i1 => (hrow.1.2.2 i i0 (by rw [hrow.1.2.1]; exact i1)).symm⟩ hrow.2.1.symm ⟨hrow.2.2.1.symm, fun i i0 i1 => (hrow.2.2.2 i i0 (by rw [hrow.2.2.1]; exact i1)).symm⟩
   exact (hv.fit (ranged16 rb) (ranged16 rd)).1 ⟨by rw [<- hrow.1.2.1]; exact hok2.2.1, by rw [<- hrow.2.2.1]; exact hok2.2.2⟩
  ·have hv : IsQ (fq (s.bool (Classical.choose hk) 3) (s.sub (Classical.choose hk) 4) (s.sub (Classical.choose hk) 6)) a b c d := hok2.isQ.of_same hrow.1.1.symm ⟨hrow.1.2.1.symm, fun i i0 i1 => (hrow.1.2.2 i i0 (by rw [hrow.1.2.1]; exact i1)).symm⟩ hrow.2.1.symm ⟨hrow.2.2.1.symm, fun i i0 i1 => (hrow.2.2.2 i i0 (by rw [hrow.2.2.1]; exact i1)).symm⟩
   exact ⟨hv.lowF, by rw [<- hrow.1.2.1]; exact hok2.2.1, by rw [<- hrow.2.2.1]; exact hok2.2.2⟩
 ·left
  obtain ⟨h1, h2⟩ := look_no h hok (fun k hk2 => hk ⟨k, hk2⟩)
  exact ⟨by unfold rateO; rw [dif_neg hk], h1, h2⟩
theorem add_res {p q : Rat} {a c a' c' nn dn : Bool} {b d b' d' nl dl : Sl} {e : Int} (h : q_fAdd a b c d a' b' c' d' nn nl dn dl e) (hp : IsQ p a b c d) (ho : okF a b c d) (hq : IsQ q a' b' c' d') (ho' : okF a' b' c' d') : resF (p + q) nn nl dn dl e := by
 have := h.1 ⟨ho, ho'⟩
 rw [hp.fq, hq.fq] at this
 exact this
theorem mul_res {p q : Rat} {a c a' c' nn dn : Bool} {b d b' d' nl dl : Sl} {e : Int} (h : q_fMul a b c d a' b' c' d' nn nl dn dl e) (hp : IsQ p a b c d) (ho : okF a b c d) (hq : IsQ q a' b' c' d') (ho' : okF a' b' c' d') : resF (p * q) nn nl dn dl e := by
 have := h.1 ⟨ho, ho'⟩
 rw [hp.fq, hq.fq] at this
 exact this
theorem grS_ok {s : Sl} {known a : Int} : ∀ {n : Nat} {q : Rat}, grS s known a n = .ok q -> fitQ q
 | 0, q, h => by simp only [grS, GR.ok.injEq] at h; subst h; exact one_fit
 | n + 1, q, h => by
  unfold grS at h
  split at h
  ·cases h
  ·split at h
   ·cases h
   ·split at h
    ·split at h
     ·rename_i hf; cases h; exact hf
     ·cases h
    ·cases h
theorem grS_err {s : Sl} {known a e : Int} {n : Nat} (h : grS s known a n = .err e) : ∀ {m : Nat}, n <= m -> grS s known a m = .err e
  | 0, hm => by have : n = 0 := by omega
                subst this; exact h
  | m + 1, hm => by
    by_cases e1 : n = m + 1
    · subst e1; exact h
    · have := grS_err h (m := m) (by omega)
      unfold grS
      rw [this]
theorem grS_ne {s : Sl} {known a : Int} : ∀ {n : Nat} {e : Int}, grS s known a n = .err e -> e = 6 \/ e = 3
 | 0, e, h => by simp [grS] at h
 | n + 1, e, h => by
  unfold grS at h
  split at h
  ·rename_i e' he; cases h; exact grS_ne he
  ·split at h
   ·cases h; exact .inl rfl
   ·split at h
    ·split at h
     ·cases h
     ·cases h; exact .inr rfl
    ·cases h; exact .inr rfl
theorem grS_none {s : Sl} {known a : Int} {n : Nat} {q : Rat} (h : grS s known a n = .ok q) (hr : rateO s known (a + n) = none) : grS s known a (n + 1) = .err 6 := by
 unfold grS; rw [h]; simp only [hr]
theorem grS_long1 {s : Sl} {known a : Int} {n : Nat} {q r : Rat} (h : grS s known a n = .ok q) (hr : rateO s known (a + n) = some r) (hf : ¬ fitQ (1 + r)) : grS s known a (n + 1) = .err 3 := by
 unfold grS; rw [h]; simp only [hr, if_neg hf]
theorem grS_long2 {s : Sl} {known a : Int} {n : Nat} {q r : Rat} (h : grS s known a n = .ok q) (hr : rateO s known (a + n) = some r) (hf : fitQ (1 + r)) (hg : ¬ fitQ (q * (1 + r))) : grS s known a (n + 1) = .err 3 := by
 unfold grS; rw [h]; simp only [hr, if_pos hf, if_neg hg]
theorem grS_step {s : Sl} {known a : Int} {n : Nat} {q r : Rat} (h : grS s known a n = .ok q) (hr : rateO s known (a + n) = some r) (hf : fitQ (1 + r)) (hg : fitQ (q * (1 + r))) : grS s known a (n + 1) = .ok (q * (1 + r)) := by
 unfold grS; rw [h]; simp only [hr, if_pos hf, if_pos hg]
def grN (a b y : Int) : Nat := (imax 0 (imin y (fY b) - fY a)).toNat
theorem grN_0 (a b : Int) : grN a b 1900 = 0 := by
 have := fY_bd a
 unfold grN imax imin; (repeat' split) <;> omega
theorem grN_end {a b y : Int} (h : fY b <= y) : grN a b y = (fY b - fY a).toNat := by
 unfold grN imax imin; (repeat' split) <;> omega
theorem grN_in {a b y : Int} (h1 : fY a <= y) (h2 : y < fY b) : grN a b y = (y - fY a).toNat /\ grN a b (y + 1) = (y - fY a).toNat + 1 /\ (y - fY a).toNat < (fY b - fY a).toNat /\ fY a + ((y - fY a).toNat : Nat) = y := by
 unfold grN imax imin; (repeat' split) <;> omega
theorem grN_before {a b y : Int} (h1 : y < fY a) : grN a b (y + 1) = grN a b y := by
 unfold grN imax imin; (repeat' split) <;> omega
theorem xGrow_ok : V_xGrow := by
 intro name two s rs a _ b _ known _ hp
 simp only [Bool.decide_eq_true]
 have bad : ¬ okT name two s a b -> q_xGrow name two s a b known (decide False) Sl.nil (decide False) Sl.nil 2 /\ True := fun h => ⟨⟨fun _ => ⟨⟨rfl, rfl, rfl, rfl⟩, rfl⟩, fun k => absurd k h⟩, trivial⟩
 refine ⟨hp, fun v hv => ⟨fun h => bad (fun k => h (hv.2 k.1.1)), fun h => ⟨fun h2 => bad (fun k => by have := k.1.2; rw [h2] at this; cases this), fun h2 => ⟨trivial, fun w hw => ⟨fun h3 => bad (fun k => h3 (hw.2 k.2)), fun h3 => ?_⟩⟩⟩⟩⟩
 have ht : okT name two s a b := ⟨⟨hv.1 (Classical.not_not.1 h), by simpa using h2⟩, hw.1 (Classical.not_not.1 h3)⟩
 have hrow : ∀ i : Int, 0 <= i -> i < s.len -> okF (s.bool i 3) (s.sub i 4) (s.bool i 5) (s.sub i 6) := fun i i0 i1 => (ht.1.1.2.2.2 i i0 i1).2.2.2.2
 have fin : ∀ {x : GR} {nn dn : Bool} {nl dl : Sl} {e : Int}, growS s a b known = x -> resG x nn nl dn dl e -> q_xGrow name two s a b known nn nl dn dl e /\ True := fun hx hr => ⟨⟨fun k => absurd ht k, fun _ => by rw [hx]; exact hr⟩, trivial⟩
 refine ⟨trivial, fun on ol rol od ok rok h1 => ⟨trivial, fun gn gl rgl gd gk rgk hg1 => ?_⟩⟩
 have ho1 : IsQ 1 on ol od ok := h1.1
 have oo1 : okF on ol od ok := ho1.ok (ranged16 rol) (ranged16 rok) one_fit
 refine ⟨fun y _ _ _ _ _ gn gl gd gk => (1900 <= y /\ y <= 2080) /\ ∃ q, grS s known (fY a) (grN a b y) = .ok q /\ IsQ q gn gl gd gk, fun y _ _ _ _ _ _ _ _ _ => (2080 - y).toNat, ⟨⟨by omega, by omega⟩, 1, by rw [grN_0]; rfl, hg1.1⟩, fun y _ r1 r2 rr2 r3 r4 rr4 e0 _ gn gl rgl gd gk rgk hJ => ?_⟩
 obtain ⟨⟨y0, y1⟩, q, hq, hg⟩ := hJ
 have og : okF gn gl gd gk := hg.ok (ranged16 rgl) (ranged16 rgk) (grS_ok hq)
 refine ⟨⟨rfl, rfl⟩, fun d _ e _ hd => ⟨fun he => ?_, fun he => ?_⟩⟩
 ·have hy : fY b <= y := by
   have := fY_bd b
   rcases Int.lt_or_le y 2080 with k | k
   ·exact absurd (hd.2 ⟨y0, by omega⟩).2 he
   ·omega
  rw [grN_end hy] at hq
  exact fin hq ⟨hg, rfl⟩
 have y2 : y <= 2079 := by
  rcases Int.lt_or_le y 2080 with k | k
  ·omega
  ·have := (hd.1 (by omega)).2; omega
 have hdd : d = dayS y := (hd.2 ⟨y0, y2⟩).1
 refine ⟨fun h4 => ?_, fun h4 => ⟨fun h5 => ?_, fun h5 => ?_⟩⟩
 ·have hy : fY b <= y := by have := fY_spec b y0 y2; omega
  rw [grN_end hy] at hq
  exact fin hq ⟨hg, rfl⟩
 ·have ya : fY a <= y := by have := fY_spec a y0 y2; omega
  have yb : y < fY b := (fY_spec b y0 y2).1 (by omega)
  obtain ⟨n1, n2, n3, n4⟩ := grN_in ya yb
  rw [n1] at hq
  have mid : ∀ {x : Int}, grS s known (fY a) ((y - fY a).toNat + 1) = .err x -> growS s a b known = .err x := fun hx => grS_err hx (by omega)
  have hz : zeroF (decide False) Sl.nil (decide False) Sl.nil := ⟨rfl, rfl, rfl, rfl⟩
  have e01 : ((0 : Int) + 1 < 3) := by decide
  have e02 : ((0 : Int) + 1 + 1 < 3) := by decide
  refine ⟨fun _ => ⟨Int.le_refl _, by decide, fun _ => ⟨hp, fun ln ll rll ld lk rlk e1 _ hl => ?_⟩, fun h => absurd trivial h⟩, fun h => absurd (by decide) h⟩
  rcases look_rate hl ht.1 hrow rll rlk with ⟨r1, _, r3⟩ | ⟨r, r1, r2, r3, r4, r5⟩
  ·exact ⟨fun he1 => ⟨fun _ => fin (mid (grS_none hq (by rw [n4]; exact r1))) ⟨hz, r3⟩, fun h => absurd he1 h⟩, fun h => by omega⟩
  refine ⟨fun h => absurd r5 h, fun _ => ⟨by rw [rng64]; omega, fun _ => ⟨by decide, e01, fun h => by omega, fun _ => ⟨fun _ => ⟨trivial, fun an al ral ad ak rak e2 _ ha => ?_⟩, fun h => absurd (by decide) h⟩⟩, fun h => absurd e01 h⟩⟩
  have hres := add_res ha ho1 oo1 r2 r4
  by_cases hf : fitQ (1 + r)
  case neg =>
   obtain ⟨g1, g2⟩ := hres.2 hf
   exact ⟨fun he1 => ⟨fun _ => fin (mid (grS_long1 hq (by rw [n4]; exact r1) hf)) ⟨hz, g2⟩, fun h => absurd he1 h⟩, fun h => by omega⟩
  obtain ⟨f1, f2⟩ := hres.1 hf
  refine ⟨fun h => absurd f2 h, fun _ => ⟨by rw [rng64]; omega, fun _ => ⟨by decide, e02, fun h => by omega, fun _ => ⟨fun h => by omega, fun _ => ⟨trivial, fun mn ml rml md mk rmk e3 _ hm => ?_⟩⟩⟩, fun h => absurd e02 h⟩⟩
  have hres := mul_res hm hg og f1 (f1.ok (ranged16 ral) (ranged16 rak) hf)
  by_cases hf2 : fitQ (q * (1 + r))
  case neg =>
   obtain ⟨g1, g2⟩ := hres.2 hf2
   exact ⟨fun he1 => ⟨fun _ => fin (mid (grS_long2 hq (by rw [n4]; exact r1) hf hf2)) ⟨hz, g2⟩, fun h => absurd he1 h⟩, fun h => by omega⟩
  obtain ⟨g1, g2⟩ := hres.1 hf2
  exact ⟨fun h => absurd g2 h, fun _ => ⟨by rw [rng64]; omega, fun h => by omega, fun _ => ⟨fun h => absurd rfl h, fun _ => ⟨by rw [rng64]; omega, ⟨⟨by omega, by omega⟩, q * (1 + r), by rw [n2]; exact grS_step hq (by rw [n4]; exact r1) hf hf2, g1⟩, by show (2080 - (y + 1)).toNat < (2080 - y).toNat; omega⟩⟩⟩⟩
 ·have ya : y < fY a := (fY_spec a y0 y2).1 (by omega)
  exact ⟨by rw [rng64]; omega, ⟨⟨by omega, by omega⟩, q, by rw [grN_before ya]; exact hq, hg⟩, by show (2080 - (y + 1)).toNat < (2080 - y).toNat; omega⟩
theorem grow_fit {s : Sl} {a b known : Int} {q : Rat} (h : growS s a b known = .ok q) : fitQ q := grS_ok h
theorem xRaise_ok : V_xRaise := by
 intro vn vl rvl vd vk rvk name two s rs a _ b _ known _ hp
 simp only [Bool.decide_eq_true]
 have hz : zeroF (decide False) Sl.nil (decide False) Sl.nil := ⟨rfl, rfl, rfl, rfl⟩
 refine ⟨trivial, fun v hv => ⟨fun h => ⟨⟨fun _ => ⟨hz, rfl⟩, fun k => absurd (hv.2 k.1) h⟩, trivial⟩, fun h => ⟨hp, fun gn gl rgl gd gk rgk e _ hg => ?_⟩⟩⟩
 have ov : okF vn vl vd vk := hv.1 (Classical.not_not.1 h)
 by_cases ht : okT name two s a b
 ·have g := hg.2 ht
  cases hgr : growS s a b known with
  | err x =>
   rw [hgr] at g
   have hx := grS_ne (n := (fY b - fY a).toNat) hgr
   have ge := g.2
   exact ⟨fun he => ⟨⟨fun k => absurd ⟨ov, ht⟩ k, fun _ => by rw [hgr]; exact ⟨hz, ge⟩⟩, trivial⟩, fun he => absurd (Classical.not_not.1 he) (by omega)⟩
  | ok q =>
   rw [hgr] at g
   refine ⟨fun he => absurd g.2 he, fun _ => ⟨trivial, fun cn cl _ cd ck _ f _ hm => ⟨⟨fun k => absurd ⟨ov, ht⟩ k, fun _ => ?_⟩, trivial⟩⟩⟩
   rw [hgr]
   exact mul_res hm ov.isQ ov g.1 (g.1.ok (ranged16 rgl) (ranged16 rgk) (grow_fit hgr))
 ·have g := hg.1 ht
  refine ⟨fun he => ⟨⟨fun _ => ⟨hz, g.2⟩, fun k => absurd k.2 ht⟩, trivial⟩, fun he => absurd (Classical.not_not.1 he) (by have := g.2; omega)⟩
theorem xLower_ok : V_xLower := by
 intro vn vl rvl vd vk rvk name two s rs a _ b _ known _ hp
 simp only [Bool.decide_eq_true]
 have hz : zeroF (decide False) Sl.nil (decide False) Sl.nil := ⟨rfl, rfl, rfl, rfl⟩
 refine ⟨trivial, fun v hv => ⟨fun h => ⟨⟨fun _ => ⟨hz, rfl⟩, fun k => absurd (hv.2 k.1) h⟩, trivial⟩, fun h => ⟨hp, fun gn gl rgl gd gk rgk e _ hg => ?_⟩⟩⟩
 have ov : okF vn vl vd vk := hv.1 (Classical.not_not.1 h)
 by_cases ht : okT name two s a b
 ·have g := hg.2 ht
  cases hgr : growS s a b known with
  | err x =>
   rw [hgr] at g
   have hx := grS_ne (n := (fY b - fY a).toNat) hgr
   have ge := g.2
   exact ⟨fun he => ⟨⟨fun k => absurd ⟨ov, ht⟩ k, fun _ => by rw [hgr]; exact ⟨hz, ge⟩⟩, trivial⟩, fun he => absurd (Classical.not_not.1 he) (by omega)⟩
  | ok q =>
   rw [hgr] at g
   refine ⟨fun he => absurd g.2 he, fun _ => ⟨trivial, fun cn cl _ cd ck _ f _ hm => ⟨⟨fun k => absurd ⟨ov, ht⟩ k, fun _ => ?_⟩, trivial⟩⟩⟩
   rw [hgr]
   have := hm.1 ⟨ov, g.1.ok (ranged16 rgl) (ranged16 rgk) (grow_fit hgr)⟩
   rw [g.1.fq] at this
   exact this
 ·have g := hg.1 ht
  refine ⟨fun he => ⟨⟨fun _ => ⟨hz, g.2⟩, fun k => absurd k.2 ht⟩, trivial⟩, fun he => absurd (Classical.not_not.1 he) (by have := g.2; omega)⟩
end Go.Sx.N
set_option linter.unusedVariables false
set_option linter.unusedSimpArgs false
namespace Go.Sx.N
def Bd (q : Rat) (K : Int) (D : Nat) : Prop := 0 <= q /\ q <= (K : Rat) /\ q.den <= D
theorem add_den_le (q r : Rat) : (q + r).den <= q.den * r.den := by
 have h : q + r = Rat.divInt (q.num * r.den + r.num * q.den) (q.den * r.den) := by
  rw [<- Rat.divInt_add_divInt _ _ (by have := q.den_pos; omega) (by have := r.den_pos; omega), Rat.num_divInt_den, Rat.num_divInt_den]
 have := divInt_den_le (n := q.num * r.den + r.num * q.den) (d := (q.den : Int) * r.den) (by
  have h1 := q.den_pos; have h2 := r.den_pos
  exact Int.mul_ne_zero (by omega) (by omega))
 rw [<- h, <- Int.natCast_mul, Int.natAbs_natCast] at this
 exact this
theorem mul_den_le (q r : Rat) : (q * r).den <= q.den * r.den := by
 have h : q * r = Rat.divInt (q.num * r.num) (q.den * r.den) := by
  rw [<- Rat.divInt_mul_divInt, Rat.num_divInt_den, Rat.num_divInt_den]
 have := divInt_den_le (n := q.num * r.num) (d := (q.den : Int) * r.den) (by
  have h1 := q.den_pos; have h2 := r.den_pos
  exact Int.mul_ne_zero (by omega) (by omega))
 rw [<- h, <- Int.natCast_mul, Int.natAbs_natCast] at this
 exact this
theorem Bd.add {q r : Rat} {K L : Int} {D E : Nat} (h : Bd q K D) (g : Bd r L E) : Bd (q + r) (K + L) (D * E) := by
 refine ⟨Rat.add_nonneg h.1 g.1, ?_, Nat.le_trans (add_den_le q r) (Nat.mul_le_mul h.2.2 g.2.2)⟩
 rw [Rat.intCast_add]
 have h1 := h.2.1; have g1 := g.2.1
 grind
theorem Bd.mul {q r : Rat} {K L : Int} {D E : Nat} (h : Bd q K D) (g : Bd r L E) : Bd (q * r) (K * L) (D * E) := by
 refine ⟨Rat.mul_nonneg h.1 g.1, ?_, Nat.le_trans (mul_den_le q r) (Nat.mul_le_mul h.2.2 g.2.2)⟩
 rw [Rat.intCast_mul]
 have e1 := Rat.mul_le_mul_of_nonneg_right h.2.1 g.1
 have e2 := Rat.mul_le_mul_of_nonneg_left g.2.1 (c := (K : Rat)) (Rat.le_trans h.1 h.2.1)
 exact Rat.le_trans e1 e2
theorem Bd.mono {q : Rat} {K L : Int} {D E : Nat} (h : Bd q K D) (k : K <= L) (d : D <= E) : Bd q L E :=
 ⟨h.1, Rat.le_trans h.2.1 (Rat.intCast_le_intCast.2 k), Nat.le_trans h.2.2 d⟩
theorem Bd.int {n K : Int} (h0 : 0 <= n) (h1 : n <= K) : Bd (n : Rat) K 1 := ⟨by have := Rat.intCast_le_intCast.2 h0; simpa using this, Rat.intCast_le_intCast.2 h1, by rw [Rat.den_intCast]; exact Nat.le_refl 1⟩
theorem Bd.num {q : Rat} {K : Int} {D : Nat} (h : Bd q K D) : 0 <= q.num /\ q.num <= K * q.den := by
 refine ⟨Rat.num_nonneg.2 h.1, ?_⟩
 have := (Rat.le_iff _ _).1 h.2.1
 rw [Rat.den_intCast, Rat.num_intCast] at this
 simpa using this
theorem Bd.fit {q : Rat} {K : Int} {D : Nat} (h : Bd q K D) (hk : 1 <= K) (hf : K.toNat * D < 65536 ^ 256) : fitQ q := by
 have hn := h.num
 have hd : q.den <= D := h.2.2
 have c : cap256 = ((65536 ^ 256 : Nat) : Int) := by rw [cap256_eq]; exact (Int.natCast_pow 65536 256).symm
 have hKD : K * q.den <= ((K.toNat * D : Nat) : Int) := by
  rw [Int.natCast_mul, Int.toNat_of_nonneg (by omega)]
  exact Int.mul_le_mul_of_nonneg_left (by omega) (by omega)
 have hD : (q.den : Int) <= ((K.toNat * D : Nat) : Int) := by
  have : D * 1 <= D * K.toNat := Nat.mul_le_mul_left D (by omega)
  rw [Nat.mul_comm K.toNat D]; omega
 have hf' : ((K.toNat * D : Nat) : Int) < cap256 := by rw [c]; exact Int.ofNat_lt.2 hf
 exact ⟨by omega, by omega⟩
theorem iRow_ok : V_iRow := by
 intro y _ k _ n _ d _ _
 simp only [Bool.decide_eq_true]
 exact ⟨trivial, fun a b _ c e _ h => ⟨⟨rfl, rfl, rfl, h⟩, trivial⟩⟩
theorem litF_okF {q : Rat} {a c : Bool} {b d : Sl} (h : litF q a b c d) : okF a b c d := ⟨⟨q, h.1⟩, by have := h.2.1; omega, by have := h.2.2; omega⟩
theorem fracQ_pos {n d : Int} (h : 1 <= d) : fracQ n d = Rat.divInt n d := if_neg (by omega)
theorem cpi_ok : V_cpi := by
 intro _
 simp only [Bool.decide_eq_true]
 refine ⟨trivial, fun a0 _ b0 _ k0 _ n0 l0 _ m0 d0 _ h0 => ⟨trivial, fun a1 _ b1 _ k1 _ n1 l1 _ m1 d1 _ h1 => ⟨trivial, fun a2 _ b2 _ k2 _ n2 l2 _ m2 d2 _ h2 => ⟨⟨rfl, rfl, rfl, ?_, ?_, ?_⟩, trivial⟩⟩⟩⟩
 ·exact ⟨h0.1, h0.2.1, h0.2.2.1, litF_okF h0.2.2.2, by have := h0.2.2.2.1.fq; rw [fracQ_pos (by decide)] at this; exact this⟩
 ·exact ⟨h1.1, h1.2.1, h1.2.2.1, litF_okF h1.2.2.2, by have := h1.2.2.2.1.fq; rw [fracQ_pos (by decide)] at this; exact this⟩
 ·exact ⟨h2.1, h2.2.1, h2.2.2.1, litF_okF h2.2.2.2, by have := h2.2.2.2.1.fq; rw [fracQ_pos (by decide)] at this; exact this⟩
theorem cand_uniq {s : Sl} {y known j k : Int} (hB : ∀ i : Int, 0 <= i -> i < s.len -> s.int i 1 = 0) (hj : candX s y known j) (hk : candX s y known k) : j = k := by
 have a1 := hj.2 k hk.1.1 hk.1.2
 have a2 := hk.2 j hj.1.1 hj.1.2
 exact force_uniq hj.1.1 hk.1.1 (by omega) (by rw [hB j hj.1.1.1.1 hj.1.1.1.2, hB k hk.1.1.1.1 hk.1.1.1.2])
theorem rate_some {s : Sl} {y known k : Int} (hB : ∀ i : Int, 0 <= i -> i < s.len -> s.int i 1 = 0) (h : candX s y known k) : rateO s known y = some (fq (s.bool k 3) (s.sub k 4) (s.sub k 6)) := by
 have hex : ∃ k, candX s y known k := ⟨k, h⟩
 have e := cand_uniq hB (Classical.choose_spec hex) h
 unfold rateO
 rw [dif_pos hex, e]
theorem rate_none {s : Sl} {y known : Int} (h : ∀ k, ¬ candX s y known k) : rateO s known y = none := by
 unfold rateO
 rw [dif_neg (fun k => h _ k.choose_spec)]
theorem fY_eq {x y0 : Int} (h : 1900 <= y0) (h' : y0 <= 2079) (h1 : y0 = 1900 \/ dayS (y0 - 1) < x) (h2 : ¬ dayS y0 < x) : fY x = y0 := by
 have bd := fY_bd x
 have a := fY_spec x h h'
 rcases h1 with h1 | h1
 ·omega
 ·by_cases e : y0 = 1900
  ·omega
  ·have := (fY_spec x (y := y0 - 1) (by omega) (by omega)).1 h1
   omega
theorem fit_small {q : Rat} (h : q.num.natAbs < 65536 ^ 8) (h' : q.den < 65536 ^ 8) : fitQ q := by
 have c : cap256 = ((65536 ^ 256 : Nat) : Int) := by rw [cap256_eq]; exact (Int.natCast_pow 65536 256).symm
 have le : (65536 ^ 8 : Nat) <= 65536 ^ 256 := Nat.pow_le_pow_right (by decide) (by decide)
 exact ⟨by rw [c]; exact Int.ofNat_lt.2 (Nat.lt_of_lt_of_le h le), by rw [c]; exact Int.ofNat_lt.2 (Nat.lt_of_lt_of_le h' le)⟩
end Go.Sx.N
set_option linter.unusedVariables false
set_option linter.unusedSimpArgs false
namespace Go.Sx.N
section
variable {s : Sl}
theorem three {Q : Int -> Prop} (h0 : Q 0) (h1 : Q 1) (h2 : Q 2) : ∀ i : Int, 0 <= i -> i < 3 -> Q i := fun i i0 i1 => by
 have : i = 0 \/ i = 1 \/ i = 2 := by omega
 rcases this with rfl | rfl | rfl
 ·exact h0
 ·exact h1
 ·exact h2
theorem cpi_valid {n : ByteArray} {two : Bool} (h : q_cpi n two s) : validT n two s /\ two = false := by
 obtain ⟨rfl, rfl, hl, h0, h1, h2⟩ := h
 refine ⟨⟨⟨by decide, by decide⟩, by omega, fun i i0 i1 => ?_, ?_⟩, rfl⟩
 ·rw [hl] at i1
  have : i = 1 \/ i = 2 := by omega
  unfold ltR ltK
  rcases this with rfl | rfl
  ·have e : (1 : Int) - 1 = 0 := rfl
   rw [e, h0.1, h0.2.1, h0.2.2.1, h1.1, h1.2.1, h1.2.2.1]; omega
  ·have e : (2 : Int) - 1 = 1 := rfl
   rw [e, h1.1, h1.2.1, h1.2.2.1, h2.1, h2.2.1, h2.2.2.1]; omega
 ·rw [hl]
  refine three ?_ ?_ ?_
  ·unfold rightAt rightS; rw [h0.1, h0.2.1, h0.2.2.1]; exact ⟨by omega, by omega, .inr rfl, by omega, h0.2.2.2.1⟩
  ·unfold rightAt rightS; rw [h1.1, h1.2.1, h1.2.2.1]; exact ⟨by omega, by omega, .inr rfl, by omega, h1.2.2.2.1⟩
  ·unfold rightAt rightS; rw [h2.1, h2.2.1, h2.2.2.1]; exact ⟨by omega, by omega, .inr rfl, by omega, h2.2.2.2.1⟩
theorem cpi_name {n : ByteArray} {two : Bool} (h : q_cpi n two s) : okN n := by
 rw [h.1]; unfold okN; decide
theorem cpi_rates {n : ByteArray} {two : Bool} (h : q_cpi n two s) : rateO s 799 1900 = some (Rat.divInt 1 50) /\ rateO s 799 1901 = some (Rat.divInt 1 50) /\ rateO s 799 1902 = some (Rat.divInt 1 10) /\ rateO s 799 1903 = some (Rat.divInt 1 10) /\
  rateO s 800 1901 = some (Rat.divInt 1 50) /\ rateO s 800 1902 = some (Rat.divInt 1 20) := by
 obtain ⟨_, _, hl, h0, h1, h2⟩ := h
 have hB : ∀ i : Int, 0 <= i -> i < s.len -> s.int i 1 = 0 := by rw [hl]; exact three h0.2.1 h1.2.1 h2.2.1
 have all : ∀ {Q : Int -> Prop}, Q 0 -> Q 1 -> Q 2 -> ∀ j : Int, 0 <= j -> j < s.len -> Q j := fun a b c => by rw [hl]; exact three a b c
 have f0 : ∀ k, 0 <= k -> inForce s k 0 := fun k hk => ⟨by omega, by rw [h0.2.2.1]; exact hk, fun j j0 j1 e _ => by
  have : j = 1 \/ j = 2 := by omega
  rcases this with rfl | rfl
  ·rw [h1.1, h0.1] at e; omega
  ·rw [h2.1, h0.1] at e; omega⟩
 have f1 : inForce s 799 1 := ⟨by omega, by rw [h1.2.2.1]; omega, fun j j0 j1 e _ => by
  have : j = 2 := by omega
  subst this
  rw [h2.2.2.1]; omega⟩
 have f2 : inForce s 800 2 := ⟨by omega, by rw [h2.2.2.1]; omega, fun j j0 j1 _ _ => by omega⟩
 have n2 : ¬ inForce s 799 2 := fun k => by have := k.2.1; rw [h2.2.2.1] at this; omega
 have c0 : ∀ k y, 0 <= k -> 1900 <= y -> y <= 1901 -> candX s y k 0 := fun k y hk y0 y1 => ⟨⟨f0 k hk, by rw [h0.1]; exact y0⟩, fun j hj hjy => by
  refine all (Q := fun j => s.int j 0 <= y -> s.int j 0 <= s.int 0 0) (fun _ => Int.le_refl _) (fun k => by rw [h1.1] at k; omega) (fun k => by rw [h2.1] at k; omega) j hj.1.1 hj.1.2 hjy⟩
 have c1 : ∀ y, 1902 <= y -> candX s y 799 1 := fun y y0 => ⟨⟨f1, by rw [h1.1]; exact y0⟩, fun j hj hjy => by
  refine all (Q := fun j => s.int j 0 <= s.int 1 0) (by rw [h0.1, h1.1]; omega) (Int.le_refl _) (by rw [h2.1, h1.1]; omega) j hj.1.1 hj.1.2⟩
 have c2 : candX s 1902 800 2 := ⟨⟨f2, by rw [h2.1]; omega⟩, fun j hj hjy => by
  refine all (Q := fun j => s.int j 0 <= s.int 2 0) (by rw [h0.1, h2.1]; omega) (by rw [h1.1, h2.1]; omega) (Int.le_refl _) j hj.1.1 hj.1.2⟩
 exact ⟨by rw [rate_some hB (c0 799 1900 (by omega) (by omega) (by omega)), h0.2.2.2.2], by rw [rate_some hB (c0 799 1901 (by omega) (by omega) (by omega)), h0.2.2.2.2], by rw [rate_some hB (c1 1902 (by omega)), h1.2.2.2.2],
  by rw [rate_some hB (c1 1903 (by omega)), h1.2.2.2.2], by rw [rate_some hB (c0 800 1901 (by omega) (by omega) (by omega)), h0.2.2.2.2], by rw [rate_some hB c2, h2.2.2.2.2]⟩
end
theorem fYs : fY 0 = 1900 /\ fY 366 = 1902 /\ fY 1 = 1901 /\ fY 365 = 1901 /\ fY 1096 = 1904 /\ fY 731 = 1903 /\ fY 9 = 1901 :=
 ⟨fY_eq (by decide) (by decide) (by decide) (by decide), fY_eq (by decide) (by decide) (by decide) (by decide), fY_eq (by decide) (by decide) (by decide) (by decide), fY_eq (by decide) (by decide) (by decide) (by decide), fY_eq (by decide) (by decide) (by decide) (by decide), fY_eq (by decide) (by decide) (by decide) (by decide), fY_eq (by decide) (by decide) (by decide) (by decide)⟩
theorem gr_step {s : Sl} {known a y : Int} {n : Nat} {q r p : Rat} (h : grS s known a n = .ok q) (hy : y = a + n) (hr : rateO s known y = some r) (e : q * (1 + r) = p) (hf : (1 + r).num.natAbs < 65536 ^ 8 /\ (1 + r).den < 65536 ^ 8) (hg : p.num.natAbs < 65536 ^ 8 /\ p.den < 65536 ^ 8) : grS s known a (n + 1) = .ok p := by
 subst hy
 subst e
 exact grS_step h hr (fit_small hf.1 hf.2) (fit_small hg.1 hg.2)
theorem cpi_grow1 {n : ByteArray} {two : Bool} {s : Sl} (h : q_cpi n two s) : growS s 0 1096 799 = .ok (Rat.divInt 314721 250000) := by
 obtain ⟨r0, r1, r2, r3, _, _⟩ := cpi_rates h
 obtain ⟨y0, _, _, _, y4, _⟩ := fYs
 unfold growS
 rw [y0, y4]
 have g0 : grS s 799 1900 0 = .ok 1 := rfl
 have g1 := gr_step (p := Rat.divInt 51 50) g0 (y := 1900) rfl r0 (by decide +kernel) (by decide +kernel) (by decide +kernel)
 have g2 := gr_step (p := Rat.divInt 2601 2500) g1 (y := 1901) rfl r1 (by decide +kernel) (by decide +kernel) (by decide +kernel)
 have g3 := gr_step (p := Rat.divInt 28611 25000) g2 (y := 1902) rfl r2 (by decide +kernel) (by decide +kernel) (by decide +kernel)
 exact gr_step (p := Rat.divInt 314721 250000) g3 (y := 1903) rfl r3 (by decide +kernel) (by decide +kernel) (by decide +kernel)
theorem cpi_grow2 {n : ByteArray} {two : Bool} {s : Sl} (h : q_cpi n two s) : growS s 1 731 800 = .ok (Rat.divInt 1071 1000) := by
 obtain ⟨_, _, _, _, r4, r5⟩ := cpi_rates h
 obtain ⟨_, _, y1, _, _, y5, _⟩ := fYs
 unfold growS
 rw [y1, y5]
 have g0 : grS s 800 1901 0 = .ok 1 := rfl
 have g1 := gr_step (p := Rat.divInt 51 50) g0 (y := 1901) rfl r4 (by decide +kernel) (by decide +kernel) (by decide +kernel)
 exact gr_step (p := Rat.divInt 1071 1000) g1 (y := 1902) rfl r5 (by decide +kernel) (by decide +kernel) (by decide +kernel)
theorem span_ok {a b : Int} (h : 0 <= a /\ a <= 65536 /\ 0 <= b /\ b <= 65536) : spanS a b := ⟨⟨h.1, h.2.1⟩, h.2.2⟩
theorem same_frac {q : Rat} {a c a' c' : Bool} {b d b' d' : Sl} {r : Bool} (h : q_kSameFrac a b c d a' b' c' d' r) (h1 : IsQ q a b c d) (h2 : IsQ q a' b' c' d') (rb : Ranged b [some .u16]) (rd : Ranged d [some .u16]) (rb' : Ranged b' [some .u16]) (rd' : Ranged d' [some .u16]) : r = true :=
 h.2 (h1.same h2 (ranged16 rb) (ranged16 rd) (ranged16 rb') (ranged16 rd'))
theorem frac_is {n d : Int} {a c : Bool} {b e : Sl} (h : q_kFrac n d a b c e) (hd : 1 <= d) : IsQ (Rat.divInt n d) a b c e := by
 have := h.1
 rw [fracQ_pos hd] at this
 exact this
theorem xAwake_ok : V_xAwake := by
 intro _
 simp only [Bool.decide_eq_true]
 obtain ⟨Y0, Y366, Y1, Y365, Y1096, Y731, Y9⟩ := fYs
 refine ⟨trivial, fun s0 _ x1 _ h1 => ⟨trivial, fun s2 _ x3 _ h3 => ⟨trivial, fun y4 b5 s6 _ hc1 => ⟨cpi_name hc1, fun b7 s8 r8 b9 s10 r10 x11 _ hg1 => ⟨trivial, fun y12 b13 s14 _ hc2 => ⟨cpi_name hc2, fun b15 s16 r16 b17 s18 r18 x19 _ hg2 => ⟨trivial, fun b20 s21 r21 b22 s23 r23 hv => ⟨trivial, fun y24 b25 s26 _ hc3 => ⟨cpi_name hc3, fun b27 s28 r28 b29 s30 r30 x31 _ hg3 => ⟨trivial, fun y32 b33 s34 _ hc4 => ⟨cpi_name hc4, fun b35 s36 r36 b37 s38 r38 x39 _ hg4 => ⟨trivial, fun x40 _ x41 _ x42 _ b43 s44 r44 b45 s46 r46 hl => ⟨by show okN _; unfold okN; decide, fun b47 s48 _ b49 s50 _ x51 _ hg5 => ?_⟩⟩⟩⟩⟩⟩⟩⟩⟩⟩⟩⟩⟩
 have e1 := h1.2 (span_ok (by decide))
 have e3 := h3.2 (span_ok (by decide))
 have e11 := hg1.2 ⟨cpi_valid hc1, span_ok (by decide)⟩
 rw [cpi_grow1 hc1] at e11
 have e19 := hg2.2 ⟨cpi_valid hc2, span_ok (by decide)⟩
 rw [cpi_grow2 hc2] at e19
 have hv' := frac_is hv (by decide)
 have ov : okF b20 s21 b22 s23 := litF_okF hv
 have e31 := hg3.2 ⟨ov, cpi_valid hc3, span_ok (by decide)⟩
 rw [cpi_grow2 hc3] at e31
 have e31' := (show resF _ _ _ _ _ _ from e31)
 rw [hv'.fq, show Rat.divInt 100 1 * Rat.divInt 1071 1000 = Rat.divInt 1071 10 by decide +kernel] at e31'
 have f31 := e31'.1 (fit_small (by decide +kernel) (by decide +kernel))
 have e39 := hg4.2 ⟨cpi_valid hc4, span_ok (by decide)⟩
 have g9 : growS s34 9 9 0 = .ok 1 := by unfold growS; rw [Int.sub_self]; rfl
 rw [g9] at e39
 have e51 : x51 = 6 := by
  have hrow : ∀ i : Int, 0 <= i -> i < 1 -> i = 0 := fun i i0 i1 => by omega
  have hok : okT (bytes [108, 97, 116, 101]) (decide False) (Sl.lit [[(.int x40), (.int x41), (.int x42), (.bool b43), (Sl.d s44), (.bool b45), (Sl.d s46)]]) 0 9 := by
   refine ⟨⟨⟨⟨by decide, by decide⟩, (show (1 : Int) <= 400 by decide), fun i i0 i1 => ?_, fun i i0 i1 => ?_⟩, rfl⟩, span_ok (by decide)⟩
   ·have : i < 1 := i1
    omega
   ·have := hrow i i0 i1
    subst this
    obtain ⟨a1, a2, a3, a4⟩ := hl
    show rightS _ x40 x41 x42 b43 s44 b45 s46
    rw [a1, a2, a3]
    exact ⟨by omega, by omega, .inr rfl, by omega, litF_okF a4⟩
  have g := hg5.2 hok
  have : growS (Sl.lit [[(.int x40), (.int x41), (.int x42), (.bool b43), (Sl.d s44), (.bool b45), (Sl.d s46)]]) 0 9 0 = .err 6 := by
   unfold growS
   rw [Y0, Y9]
   refine grS_none (n := 0) (q := 1) rfl (rate_none fun k hk => ?_)
   have := hrow k hk.1.1.1.1 hk.1.1.1.2
   subst this
   have h2 : x40 <= 1900 := hk.1.2
   rw [hl.1] at h2
   omega
  rw [this] at g
  exact g.2
 have z1 : x1 = 0 := e1.2
 have z3 : x3 = 0 := e3.2
 have z11 : x11 = 0 := e11.2
 have z19 : x19 = 0 := e19.2
 have z31 : x31 = 0 := f31.2
 have z39 : x39 = 0 := e39.2
 have z : x1 + x3 + x11 + x19 + x31 + x39 = 0 := by omega
 have rng : ∀ z : Int, z = 0 -> Rng .i64 z := fun z h => by subst h; rw [rng64]; omega
 have l0 : s0.len = 2 := by rw [e1.1.1, Y0, Y366]; rfl
 have l2 : s2.len = 0 := by rw [e3.1.1, Y1, Y365]; rfl
 refine ⟨rng _ (by omega), rng _ (by omega), rng _ (by omega), rng _ (by omega), rng _ z, fun _ => ⟨fun _ => ⟨trivial, fun b52 h52 => ⟨fun _ _ => ⟨fun _ => ⟨trivial, fun b53 s54 r54 b55 s56 r56 hf1 => ⟨trivial, fun b57 h57 => ⟨fun _ => ⟨trivial, fun b58 s59 r59 b60 s61 r61 hf2 => ⟨trivial, fun b62 h62 => ⟨fun _ => ⟨trivial, fun b63 s64 r64 b65 s66 r66 hf3 => ⟨trivial, fun b67 h67 => ⟨fun _ => ⟨trivial, fun b68 s69 r69 b70 s71 r71 hf4 => ⟨trivial, fun b72 h72 => ⟨?_, trivial⟩⟩⟩, fun h => ?_⟩⟩⟩, fun h => ?_⟩⟩⟩, fun h => ?_⟩⟩⟩, fun h => absurd l2 h⟩, fun h => ?_⟩⟩, fun h => absurd e51 h⟩, fun h => absurd z h⟩
 ·exact same_frac h72 e39.1 (by have := frac_is hf4 (by decide); exact this) r36 r38 r69 r71
 ·exact absurd (same_frac h67 f31.1 (frac_is hf3 (by decide)) r28 r30 r64 r66) h
 ·exact absurd (same_frac h62 e19.1 (frac_is hf2 (by decide)) r16 r18 r59 r61) h
 ·exact absurd (same_frac h57 e11.1 (frac_is hf1 (by decide)) r8 r10 r54 r56) h
 ·refine absurd (h52.2 ⟨l0, fun i i0 i1 => ?_⟩) h
  rw [e1.1.2 i i0 i1, Y0]
  have : i = 0 \/ i = 1 := by omega
  rcases this with rfl | rfl <;> rfl
end Go.Sx.N
set_option linter.unusedVariables false
set_option linter.unusedSimpArgs false
namespace Go.Sx.N
theorem yearsL_ok : V_yearsL := by
 intro a _ b _ _
 simp only [Bool.decide_eq_true]
 refine ⟨trivial, fun s _ e _ h => ⟨trivial, fun t _ f _ g => ?_⟩⟩
 have key : e = f /\ SameI s t := by
  by_cases hs : spanS a b
  ·obtain ⟨h1, h2⟩ := h.2 hs
   obtain ⟨g1, g2⟩ := g.2 hs
   exact ⟨by omega, by rw [h1.1, g1.1], fun i i0 i1 => by rw [h1.2 i i0 i1, g1.2 i i0 (by rw [g1.1, <- h1.1]; exact i1)]⟩
  ·obtain ⟨h1, h2⟩ := h.1 hs
   obtain ⟨g1, g2⟩ := g.1 hs
   exact ⟨by omega, by omega, fun i i0 i1 => by omega⟩
 exact ⟨fun _ => ⟨trivial, fun r hr => ⟨hr.2 key.2, trivial⟩⟩, fun h => absurd key.1 h⟩
end Go.Sx.N
