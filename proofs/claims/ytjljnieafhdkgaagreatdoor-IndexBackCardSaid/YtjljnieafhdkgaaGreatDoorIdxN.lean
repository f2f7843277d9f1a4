/-
  Values raised and lowered by growth of the index that the statements build. Conditions: none.
-/
import Derived.Test.YtjljnieafhdkgaaGreatDoorIdxM
set_option linter.unusedVariables false
set_option linter.unusedSimpArgs false
namespace Go.Sx.N

theorem num_le (a b : Int) : (Rat.divInt a b).num.natAbs ≤ a.natAbs := by
  rw [Rat.num_divInt]
  refine Nat.le_trans (Int.natAbs_ediv_le_natAbs _ _) ?_
  rw [Int.natAbs_mul]
  rcases Int.lt_trichotomy b 0 with h | h | h
  · rw [Int.sign_eq_neg_one_of_neg h]; simp
  · subst h; simp
  · rw [Int.sign_eq_one_of_pos h]; simp

theorem den_le {a b : Int} (hb : b ≠ 0) : (Rat.divInt a b).den ≤ b.natAbs := by
  rw [Rat.den_divInt, if_neg hb]
  exact Nat.div_le_self _ _

theorem fit_div {a b : Int} (hb : b ≠ 0) (h1 : a.natAbs < 65536 ^ 256) (h2 : b.natAbs < 65536 ^ 256) : fitQ (Rat.divInt a b) := by
  have c : cap256 = ((65536 ^ 256 : Nat) : Int) := by rw [cap256_eq]; exact (Int.natCast_pow 65536 256).symm
  have := num_le a b
  have := den_le (a := a) hb
  exact ⟨by rw [c]; exact Int.ofNat_lt.2 (by omega), by rw [c]; exact Int.ofNat_lt.2 (by omega)⟩

/-- A number of the statements. -/
def valB (v : Rat) : Prop := v.num.natAbs ≤ 65536 ∧ v.den ≤ 1000
theorem valB_frac {n : Int} (h : -65536 ≤ n ∧ n ≤ 65536) : valB (Rat.divInt n 1000) := by
  have := num_le n 1000
  have := den_le (a := n) (b := 1000) (by decide)
  exact ⟨by omega, by have e : (1000 : Int).natAbs = 1000 := rfl
                      omega⟩

/-- What is known of a growth. -/
def gro (q : Rat) : Prop := 0 < q ∧ q.num.natAbs ≤ 2000 ^ 180 ∧ q.den ≤ 2000 ^ 180
theorem gro_of {q : Rat} {n : Nat} (hn : n ≤ 180) (p : 0 < q) (h : Bd q ((2 ^ n : Nat) : Int) (1000 ^ n)) : gro q := by
  have b := h.num
  have d := h.2.2
  have e : 2 ^ n * 1000 ^ n ≤ 2000 ^ 180 := by rw [← Nat.mul_pow]; exact Nat.pow_le_pow_right (by decide) hn
  have e2 : 1000 ^ n ≤ 2000 ^ 180 := Nat.le_trans (Nat.pow_le_pow_right (by decide) hn) (by decide +kernel)
  have e3 : ((2 ^ n : Nat) : Int) * (q.den : Int) ≤ ((2 ^ n * 1000 ^ n : Nat) : Int) := by
    rw [Int.natCast_mul]
    exact Int.mul_le_mul_of_nonneg_left (Int.ofNat_le.2 d) (Int.natCast_nonneg _)
  refine ⟨p, ?_, Nat.le_trans d e2⟩
  have := Int.ofNat_le.2 e
  omega

theorem mulN {a b A B C : Nat} (h : a ≤ A) (g : b ≤ B) (k : A * B < C) : a * b < C := Nat.lt_of_le_of_lt (Nat.mul_le_mul h g) k

theorem val_fit {v : Rat} (h : valB v) : fitQ v := by
  have c : cap256 = ((65536 ^ 256 : Nat) : Int) := by rw [cap256_eq]; exact (Int.natCast_pow 65536 256).symm
  exact ⟨by rw [c]; exact Int.ofNat_lt.2 (Nat.lt_of_le_of_lt h.1 (by decide +kernel)), by rw [c]; exact Int.ofNat_lt.2 (Nat.lt_of_le_of_lt h.2 (by decide +kernel))⟩

theorem den_neI (q : Rat) : (q.den : Int) ≠ 0 := by have := q.den_pos; omega
theorem gro.num_ne {q : Rat} (g : gro q) : q.num ≠ 0 := fun h => by
  have e : q = 0 := by rw [← Rat.num_divInt_den q, h, Rat.zero_divInt]
  have := g.1
  rw [e] at this
  exact absurd this (by decide +kernel)
theorem gro.ne {q : Rat} (g : gro q) : q ≠ 0 := fun h => g.num_ne (by rw [h]; rfl)

theorem mul_fits {v q : Rat} (h : valB v) (g : gro q) : fitQ (v * q) := by
  have e : v * q = Rat.divInt (v.num * q.num) ((v.den : Int) * q.den) := by
    have := Rat.divInt_mul_divInt v.num q.num (d₁ := v.den) (d₂ := q.den)
    rw [Rat.num_divInt_den, Rat.num_divInt_den] at this
    exact this
  rw [e]
  refine fit_div (Int.mul_ne_zero (den_neI v) (den_neI q)) ?_ ?_
  · rw [Int.natAbs_mul]; exact mulN h.1 g.2.1 (by decide +kernel)
  · rw [Int.natAbs_mul]; exact mulN (A := 1000) (by have := h.2; omega) (B := 2000 ^ 180) (by have := g.2.2; rw [Int.natAbs_natCast]; exact this) (by decide +kernel)

theorem div_fits {v q : Rat} (h : valB v) (g : gro q) : fitQ (v / q) := by
  have e : v / q = Rat.divInt (v.num * q.den) ((v.den : Int) * q.num) := by
    have i : q⁻¹ = Rat.divInt q.den q.num := by
      have := Rat.inv_divInt q.num q.den
      rw [Rat.num_divInt_den] at this
      exact this
    have := Rat.divInt_mul_divInt v.num q.den (d₁ := v.den) (d₂ := q.num)
    rw [Rat.num_divInt_den] at this
    rw [Rat.div_def, i]
    exact this
  rw [e]
  refine fit_div (Int.mul_ne_zero (den_neI v) g.num_ne) ?_ ?_
  · rw [Int.natAbs_mul]; exact mulN h.1 (B := 2000 ^ 180) (by have := g.2.2; rw [Int.natAbs_natCast]; exact this) (by decide +kernel)
  · rw [Int.natAbs_mul]; exact mulN (A := 1000) (by have := h.2; omega) g.2.1 (by decide +kernel)

section
variable {F : Rat → Bool → Sl → Bool → Sl → Int → Prop} {vn vd two nn dn : Bool} {vl vk s nl dl : Sl} {name : ByteArray} {a b known e : Int}
theorem chg_ok {q : Rat} (h : chgR F vn vl vd vk name two s a b known nn nl dn dl e) (ok : okF vn vl vd vk) (ht : okT name two s a b) (hg : growS s a b known = .ok q) : F q nn nl dn dl e := by
  have := h.2 ⟨ok, ht⟩
  rw [hg] at this
  exact this
theorem chg_err {x : Int} (h : chgR F vn vl vd vk name two s a b known nn nl dn dl e) (ok : okF vn vl vd vk) (ht : okT name two s a b) (hg : growS s a b known = .err x) : zeroF nn nl dn dl ∧ e = x := by
  have := h.2 ⟨ok, ht⟩
  rw [hg] at this
  exact this
end

/-- An index of one row, from 1900 on. -/
theorem one_row {y k n : Int} {a b c : Int} {nn dn : Bool} {nl dl : Sl} (hr : q_iRow y k n 1 a b c nn nl dn dl) (hy : -2147483648 ≤ y ∧ y ≤ 1900) (hk : k = 0) :
    sortedT (Sl.lit [[.int a, .int b, .int c, .bool nn, Sl.d nl, .bool dn, Sl.d dl]]) ∧ (∀ i : Int, 0 ≤ i → i < (Sl.lit [[.int a, .int b, .int c, .bool nn, Sl.d nl, .bool dn, Sl.d dl]]).len → rightAt false (Sl.lit [[.int a, .int b, .int c, .bool nn, Sl.d nl, .bool dn, Sl.d dl]]) i) ∧
    rateO (Sl.lit [[.int a, .int b, .int c, .bool nn, Sl.d nl, .bool dn, Sl.d dl]]) 0 1900 = some (Rat.divInt n 1) := by
  obtain ⟨rfl, rfl, rfl, hf⟩ := hr
  subst hk
  have ok := litF_okF hf
  have one : ∀ i : Int, 0 ≤ i → i < (Sl.lit [[.int a, .int 0, .int 0, .bool nn, Sl.d nl, .bool dn, Sl.d dl]]).len → i = 0 := fun i i0 i1 => by
    have : i < 1 := i1
    omega
  refine ⟨fun i i0 i1 => by have := one i (by omega) i1; omega, fun i i0 i1 => ?_, ?_⟩
  · have := one i i0 i1
    subst this
    show rightS false a 0 0 nn nl dn dl
    exact ⟨by omega, by omega, .inr rfl, by omega, ok⟩
  · have hc : candX (Sl.lit [[.int a, .int 0, .int 0, .bool nn, Sl.d nl, .bool dn, Sl.d dl]]) 1900 0 0 := by
      refine ⟨⟨⟨⟨Int.le_refl _, by show (0 : Int) < 1; decide⟩, Int.le_refl _, fun j j0 j1 => ?_⟩, hy.2⟩, fun j hj _ => ?_⟩
      · have := one j (by omega) j1; omega
      · have := one j hj.1.1 hj.1.2
        subst this
        exact Int.le_refl _
    rw [rate_some (fun i i0 i1 => by have := one i i0 i1; subst this; rfl) hc]
    show some (fq nn nl dl) = _
    rw [hf.1.fq, fracQ_pos (by decide)]

end Go.Sx.N
