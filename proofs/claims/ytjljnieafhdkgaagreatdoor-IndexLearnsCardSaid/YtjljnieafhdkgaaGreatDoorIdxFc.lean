/-
  Helpers of the statements on growth: their tables, their bounds; the chapter's examples. Conditions: none.
-/
import Derived.Test.YtjljnieafhdkgaaGreatDoorIdxFb
set_option linter.unusedVariables false
set_option linter.unusedSimpArgs false
namespace Go.Sx.N

/-- A fraction from 0 to K with a denominator of at most D. -/
def Bd (q : Rat) (K : Int) (D : Nat) : Prop := 0 ≤ q ∧ q ≤ (K : Rat) ∧ q.den ≤ D

theorem add_den_le (q r : Rat) : (q + r).den ≤ q.den * r.den := by
  have h : q + r = Rat.divInt (q.num * r.den + r.num * q.den) (q.den * r.den) := by
    rw [← Rat.divInt_add_divInt _ _ (by have := q.den_pos; omega) (by have := r.den_pos; omega), Rat.num_divInt_den, Rat.num_divInt_den]
  have := divInt_den_le (n := q.num * r.den + r.num * q.den) (d := (q.den : Int) * r.den) (by
    have h1 := q.den_pos; have h2 := r.den_pos
    exact Int.mul_ne_zero (by omega) (by omega))
  rw [← h, ← Int.natCast_mul, Int.natAbs_natCast] at this
  exact this
theorem mul_den_le (q r : Rat) : (q * r).den ≤ q.den * r.den := by
  have h : q * r = Rat.divInt (q.num * r.num) (q.den * r.den) := by
    rw [← Rat.divInt_mul_divInt, Rat.num_divInt_den, Rat.num_divInt_den]
  have := divInt_den_le (n := q.num * r.num) (d := (q.den : Int) * r.den) (by
    have h1 := q.den_pos; have h2 := r.den_pos
    exact Int.mul_ne_zero (by omega) (by omega))
  rw [← h, ← Int.natCast_mul, Int.natAbs_natCast] at this
  exact this
theorem Bd.add {q r : Rat} {K L : Int} {D E : Nat} (h : Bd q K D) (g : Bd r L E) : Bd (q + r) (K + L) (D * E) := by
  refine ⟨Rat.add_nonneg h.1 g.1, ?_, Nat.le_trans (add_den_le q r) (Nat.mul_le_mul h.2.2 g.2.2)⟩
  rw [Rat.intCast_add]
  have h1 := h.2.1; have g1 := g.2.1
  grind
theorem Bd.mul {q r : Rat} {K L : Int} {D E : Nat} (h : Bd q K D) (g : Bd r L E) : Bd (q * r) (K * L) (D * E) := by
  refine ⟨Rat.mul_nonneg h.1 g.1, ?_, Nat.le_trans (mul_den_le q r) (Nat.mul_le_mul h.2.2 g.2.2)⟩
  rw [Rat.intCast_mul]
  have e1 := Rat.mul_le_mul_of_nonneg_right h.2.1 g.1
  have e2 := Rat.mul_le_mul_of_nonneg_left g.2.1 (c := (K : Rat)) (Rat.le_trans h.1 h.2.1)
  exact Rat.le_trans e1 e2
theorem Bd.mono {q : Rat} {K L : Int} {D E : Nat} (h : Bd q K D) (k : K ≤ L) (d : D ≤ E) : Bd q L E :=
  ⟨h.1, Rat.le_trans h.2.1 (Rat.intCast_le_intCast.2 k), Nat.le_trans h.2.2 d⟩
theorem Bd.int {n K : Int} (h0 : 0 ≤ n) (h1 : n ≤ K) : Bd (n : Rat) K 1 := ⟨by have := Rat.intCast_le_intCast.2 h0; simpa using this, Rat.intCast_le_intCast.2 h1, by rw [Rat.den_intCast]; exact Nat.le_refl 1⟩
theorem Bd.num {q : Rat} {K : Int} {D : Nat} (h : Bd q K D) : 0 ≤ q.num ∧ q.num ≤ K * q.den := by
  refine ⟨Rat.num_nonneg.2 h.1, ?_⟩
  have := (Rat.le_iff _ _).1 h.2.1
  rw [Rat.den_intCast, Rat.num_intCast] at this
  simpa using this
theorem Bd.fit {q : Rat} {K : Int} {D : Nat} (h : Bd q K D) (hk : 1 ≤ K) (hf : K.toNat * D < 65536 ^ 256) : fitQ q := by
  have hn := h.num
  have hd : q.den ≤ D := h.2.2
  have c : cap256 = ((65536 ^ 256 : Nat) : Int) := by rw [cap256_eq]; exact (Int.natCast_pow 65536 256).symm
  have hKD : K * q.den ≤ ((K.toNat * D : Nat) : Int) := by
    rw [Int.natCast_mul, Int.toNat_of_nonneg (by omega)]
    exact Int.mul_le_mul_of_nonneg_left (by omega) (by omega)
  have hD : (q.den : Int) ≤ ((K.toNat * D : Nat) : Int) := by
    have : D * 1 ≤ D * K.toNat := Nat.mul_le_mul_left D (by omega)
    rw [Nat.mul_comm K.toNat D]; omega
  have hf' : ((K.toNat * D : Nat) : Int) < cap256 := by rw [c]; exact Int.ofNat_lt.2 hf
  exact ⟨by omega, by omega⟩

theorem iRow_ok : V_iRow := by
  intro y _ k _ n _ d _ _
  simp only [Bool.decide_eq_true]
  exact ⟨trivial, fun a b _ c e _ h => ⟨⟨rfl, rfl, rfl, h⟩, trivial⟩⟩

theorem iOne_ok : V_iOne := by
  intro _
  simp only [Bool.decide_eq_true]
  exact ⟨trivial, fun a b _ c d _ h => ⟨⟨h.1, h.2.1, h.2.2⟩, trivial⟩⟩

theorem litF_okF {q : Rat} {a c : Bool} {b d : Sl} (h : litF q a b c d) : okF a b c d := ⟨⟨q, h.1⟩, by have := h.2.1; omega, by have := h.2.2; omega⟩

theorem fracQ_pos {n d : Int} (h : 1 ≤ d) : fracQ n d = Rat.divInt n d := if_neg (by omega)

theorem cpi_ok : V_cpi := by
  intro _
  simp only [Bool.decide_eq_true]
  refine ⟨trivial, fun a0 _ b0 _ k0 _ n0 l0 _ m0 d0 _ h0 => ⟨trivial, fun a1 _ b1 _ k1 _ n1 l1 _ m1 d1 _ h1 => ⟨trivial, fun a2 _ b2 _ k2 _ n2 l2 _ m2 d2 _ h2 => ⟨⟨rfl, rfl, rfl, ?_, ?_, ?_⟩, trivial⟩⟩⟩⟩
  · exact ⟨h0.1, h0.2.1, h0.2.2.1, litF_okF h0.2.2.2, by have := h0.2.2.2.1.fq; rw [fracQ_pos (by decide)] at this; exact this⟩
  · exact ⟨h1.1, h1.2.1, h1.2.2.1, litF_okF h1.2.2.2, by have := h1.2.2.2.1.fq; rw [fracQ_pos (by decide)] at this; exact this⟩
  · exact ⟨h2.1, h2.2.1, h2.2.2.1, litF_okF h2.2.2.2, by have := h2.2.2.2.1.fq; rw [fracQ_pos (by decide)] at this; exact this⟩

theorem asked_ok : V_asked := by
  intro a _ b _ _
  refine ⟨trivial, fun x _ hx => ⟨trivial, fun y _ hy => ?_⟩⟩
  have hx : x = if (20000 : Int) < 1 then 0 else a % 20000 := hx
  have hy : y = if (20000 : Int) < 1 then 0 else b % 20000 := hy
  rw [if_neg (by decide)] at hx hy
  have e1 : imin x y = if y < x then y else x := rfl
  have e2 : imax x y = if y > x then y else x := rfl
  refine ⟨by rw [e1, rng64]; split <;> omega, ?_, trivial⟩
  unfold q_asked imin imax
  (repeat' split) <;> omega

/-! Rates -/
theorem cand_uniq {s : Sl} {y known j k : Int} (hB : ∀ i : Int, 0 ≤ i → i < s.len → s.int i 1 = 0) (hj : candX s y known j) (hk : candX s y known k) : j = k := by
  have a1 := hj.2 k hk.1.1 hk.1.2
  have a2 := hk.2 j hj.1.1 hj.1.2
  exact force_uniq hj.1.1 hk.1.1 (by omega) (by rw [hB j hj.1.1.1.1 hj.1.1.1.2, hB k hk.1.1.1.1 hk.1.1.1.2])
theorem rate_some {s : Sl} {y known k : Int} (hB : ∀ i : Int, 0 ≤ i → i < s.len → s.int i 1 = 0) (h : candX s y known k) : rateO s known y = some (fq (s.bool k 3) (s.sub k 4) (s.sub k 6)) := by
  have hex : ∃ k, candX s y known k := ⟨k, h⟩
  have e := cand_uniq hB (Classical.choose_spec hex) h
  unfold rateO
  rw [dif_pos hex, e]
theorem rate_none {s : Sl} {y known : Int} (h : ∀ k, ¬ candX s y known k) : rateO s known y = none := by
  unfold rateO
  rw [dif_neg (fun k => h _ k.choose_spec)]

theorem fY_eq {x y0 : Int} (h : 1900 ≤ y0) (h' : y0 ≤ 2079) (h1 : y0 = 1900 ∨ dayS (y0 - 1) < x) (h2 : ¬ dayS y0 < x) : fY x = y0 := by
  have bd := fY_bd x
  have a := fY_spec x h h'
  rcases h1 with h1 | h1
  · omega
  · by_cases e : y0 = 1900
    · omega
    · have := (fY_spec x (y := y0 - 1) (by omega) (by omega)).1 h1
      omega

theorem fit_small {q : Rat} (h : q.num.natAbs < 65536 ^ 8) (h' : q.den < 65536 ^ 8) : fitQ q := by
  have c : cap256 = ((65536 ^ 256 : Nat) : Int) := by rw [cap256_eq]; exact (Int.natCast_pow 65536 256).symm
  have le : (65536 ^ 8 : Nat) ≤ 65536 ^ 256 := Nat.pow_le_pow_right (by decide) (by decide)
  exact ⟨by rw [c]; exact Int.ofNat_lt.2 (Nat.lt_of_lt_of_le h le), by rw [c]; exact Int.ofNat_lt.2 (Nat.lt_of_lt_of_le h' le)⟩

end Go.Sx.N
