/-
 Sums of rates: sums that are kept, from the end, and sums from the beginning. Conditions: none.
-/
import Derived.Test.YtmhhcnaflklapaaGreatArrSpec
import Derived.Test.YtmhhcnaflklapaaGreatNumFc
set_option linter.unusedVariables false
set_option linter.unusedSimpArgs false
namespace Go.Sx.N
theorem num_leA (a b : Int) : (Rat.divInt a b).num.natAbs <= a.natAbs := by
 rw [Rat.num_divInt]
 refine Nat.le_trans (Int.natAbs_ediv_le_natAbs _ _) ?_
 rw [Int.natAbs_mul]
 rcases Int.lt_trichotomy b 0 with h | h | h
 ·rw [Int.sign_eq_neg_one_of_neg h]; simp
 ·subst h; simp
 ·rw [Int.sign_eq_one_of_pos h]; simp
theorem den_leA {a b : Int} (hb : b ≠ 0) : (Rat.divInt a b).den <= b.natAbs := by
 rw [Rat.den_divInt, if_neg hb]
 exact Nat.div_le_self _ _
theorem fit_divA {a b : Int} (hb : b ≠ 0) (h1 : a.natAbs < 65536 ^ 256) (h2 : b.natAbs < 65536 ^ 256) : fitQ (Rat.divInt a b) := by
 have c : cap256 = ((65536 ^ 256 : Nat) : Int) := by rw [cap256_eq]; exact (Int.natCast_pow 65536 256).symm
 have := num_leA a b
 have := den_leA (a := a) hb
 exact ⟨by rw [c]; exact Int.ofNat_lt.2 (by omega), by rw [c]; exact Int.ofNat_lt.2 (by omega)⟩
def shortQ (q : Rat) : Prop := q.num.natAbs < 65536 ^ 120 /\ q.den < 65536 ^ 120
theorem den_neA (q : Rat) : (q.den : Int) ≠ 0 := by have := q.den_pos; omega
theorem short_diff {p q : Rat} (hp : shortQ p) (hq : shortQ q) : fitQ (p - q) := by
 have e : p - q = Rat.divInt (p.num * q.den - q.num * p.den) ((p.den : Int) * q.den) := by
  have := Rat.divInt_sub_divInt p.num q.num (den_neA p) (den_neA q)
  rw [Rat.num_divInt_den, Rat.num_divInt_den] at this
  exact this
 rw [e]
 have m1 : p.num.natAbs * q.den < 65536 ^ 120 * 65536 ^ 120 := Nat.mul_lt_mul'' hp.1 hq.2
 have m2 : q.num.natAbs * p.den < 65536 ^ 120 * 65536 ^ 120 := Nat.mul_lt_mul'' hq.1 hp.2
 have m3 : p.den * q.den < 65536 ^ 120 * 65536 ^ 120 := Nat.mul_lt_mul'' hp.2 hq.2
 have c : 65536 ^ 120 * 65536 ^ 120 + 65536 ^ 120 * 65536 ^ 120 < 65536 ^ 256 := by decide +kernel
 have n1 : (p.num * (q.den : Int)).natAbs = p.num.natAbs * q.den := by rw [Int.natAbs_mul, Int.natAbs_natCast]
 have n2 : (q.num * (p.den : Int)).natAbs = q.num.natAbs * p.den := by rw [Int.natAbs_mul, Int.natAbs_natCast]
 have n3 : ((p.den : Int) * q.den).natAbs = p.den * q.den := by rw [Int.natAbs_mul, Int.natAbs_natCast, Int.natAbs_natCast]
 have a1 : (p.num * (q.den : Int) - q.num * (p.den : Int)).natAbs <= p.num.natAbs * q.den + q.num.natAbs * p.den := by
  have := Int.natAbs_sub_le (p.num * (q.den : Int)) (q.num * (p.den : Int))
  rw [n1, n2] at this
  exact this
 refine fit_divA (Int.mul_ne_zero (den_neA p) (den_neA q)) ?_ ?_
 ·exact Nat.lt_of_le_of_lt a1 (Nat.lt_trans (Nat.add_lt_add m1 m2) c)
 ·rw [n3]
  exact Nat.lt_trans m3 (by decide +kernel)
def psum (f : Nat -> Rat) : Nat -> Rat
 | 0 => 0
 | n + 1 => psum f n + f n
theorem sumS_ok {s : Sl} {known due : Int} {f : Nat -> Rat} : ∀ {n : Nat}, (∀ j : Nat, j < n -> rateO s known (1900 + (due + j) / 12) = some (f j)) -> (∀ j : Nat, j <= n -> fitQ (psum f j)) -> sumS s known due n = .ok (psum f n)
 | 0, _, _ => rfl
 | n + 1, hr, hf => by
  have ih := sumS_ok (n := n) (fun j hj => hr j (by omega)) (fun j hj => hf j (by omega))
  unfold sumS
  rw [ih]
  simp only [hr n (by omega)]
  exact if_pos (hf (n + 1) (Nat.le_refl _))
theorem quick_sum {s : Sl} {known due : Int} {f : Nat -> Rat} {n : Nat} (hr : ∀ j : Nat, j < n -> rateO s known (1900 + (due + j) / 12) = some (f j)) (hs : ∀ j : Nat, j <= n -> shortQ (psum f n - psum f j)) : sumS s known due n = .ok (psum f n) := by
 refine sumS_ok hr fun j hj => ?_
 have e : psum f j = (psum f n - psum f 0) - (psum f n - psum f j) := by
  show psum f j = (psum f n - 0) - (psum f n - psum f j)
  grind
 rw [e]
 exact short_diff (hs 0 (Nat.zero_le _)) (hs j hj)
theorem short_of {q : Rat} {a c : Bool} {b d : Sl} (h : IsQ q a b c d) (rb : Ranged b [some .u16]) (rd : Ranged d [some .u16]) (hb : b.len <= 120) (hd : d.len <= 120) : shortQ q := by
 have z1 := zv_len (n := a) (ranged16 rb) (k := 120) hb
 have z2 := zv_len (n := false) (ranged16 rd) (k := 120) hd
 have e2 : zv false d = (q.den : Int) := h.2.2.2.2
 rw [h.2.1] at z1
 rw [e2, Int.natAbs_natCast] at z2
 have c : ((65536 : Int) ^ 120) = ((65536 ^ 120 : Nat) : Int) := (Int.natCast_pow 65536 120).symm
 rw [c] at z1 z2
 exact ⟨Int.ofNat_lt.1 z1, Int.ofNat_lt.1 z2⟩
end Go.Sx.N
