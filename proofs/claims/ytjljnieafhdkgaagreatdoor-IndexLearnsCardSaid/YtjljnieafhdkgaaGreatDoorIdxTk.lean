/-
  The numbers that the checks make. Conditions: none.
-/

import Derived.Test.YtjljnieafhdkgaaGreatDoorNumVG
import Derived.Test.YtjljnieafhdkgaaGreatDoorNumFc
set_option linter.unusedVariables false
set_option linter.unusedSimpArgs false
namespace Go.Sx.N

theorem kWhole_ok : V_kWhole := by
  intro n rn _
  rw [rng64] at rn
  simp only [Bool.decide_eq_true]
  refine ⟨fun s => s = (if n < 0 then -n else n), ⟨fun h => ?_, fun h => ?_⟩, fun s rs hs => ?_⟩
  · rw [if_pos h, wu64, wu64]; omega
  · rw [if_neg h, wu64]; omega
  have hs : s = (if n < 0 then -n else n) := hs
  have hs0 : 0 ≤ s ∧ s ≤ 9223372036854775808 := by rw [hs]; split <;> omega
  refine ⟨fun u b l => b = decide (n < 0) ∧ 0 ≤ u ∧ u ≤ s ∧ vl l + u * 65536 ^ l.n = s ∧ 0 ≤ vl l ∧ (u = 0 → Nrm l) ∧ l.len ≤ 4, fun u _ _ => u.toNat, ⟨rfl, hs0.1, Int.le_refl _, ?_, Int.le_refl _, fun _ => nrm_nil, by decide⟩, fun u ru b l rl hj => ?_⟩
  · show 0 + s * 65536 ^ 0 = s
    rw [Int.pow_zero]; omega
  obtain ⟨rfl, u0, us, hv, hl0, hn, hl4⟩ := hj
  have e1 : ∀ d : Int, (Sl.lit [[.int d]]).len = 1 := fun d => rfl
  refine ⟨fun hp => ?_, fun hz => ?_⟩
  · have hlen : l.n < 4 := by
      have h1 : 1 * 65536 ^ l.n ≤ u * 65536 ^ l.n := Int.mul_le_mul_of_nonneg_right (by omega) (Int.le_of_lt (pos_pow (by decide) _))
      have h2 : (65536 : Int) ^ l.n < 65536 ^ 4 := by
        have : (65536 : Int) ^ 4 = 18446744073709551616 := rfl
        omega
      exact pow_strict (B := 65536) (by decide) h2
    have sh : shr .u64 u 16 = u / 65536 := shr_def .u64 (x := u) (n := 16) (by decide)
    rw [sh, wu16]
    have hval : vl (Sl.app l (Sl.lit [[.int (u % 65536)]])) = vl l + u % 65536 * 65536 ^ l.n := by unfold vl; rw [val_app1]
    have hpn := pos_pow (B := 65536) (by decide) l.n
    refine ⟨by rw [e1]; unfold Sl.len; omega, by decide, rngu64.2 (by omega), ⟨rfl, by omega, by omega, ?_, ?_, fun hz => ?_, ?_⟩, by show (u / 65536).toNat < u.toNat; omega⟩
    · rw [hval]
      show _ + u / 65536 * 65536 ^ (l.n + 1) = s
      rw [Int.pow_succ, ← hv]
      generalize (65536 : Int) ^ l.n = Q at *
      have e2 : u % 65536 = u - 65536 * (u / 65536) := by omega
      rw [e2]
      generalize u / 65536 = q at *
      grind
    · rw [hval]
      have : 0 ≤ u % 65536 * 65536 ^ l.n := Int.mul_nonneg (by omega) (by omega)
      omega
    · intro _
      rw [len_app1, show l.len + 1 - 1 = l.len from by omega, int_app_ge (Int.le_refl _), Int.sub_self]
      show u % 65536 ≠ 0
      omega
    · rw [len_app1]
      unfold Sl.len
      omega
  · have hu : u = 0 := by omega
    rw [hu, Int.zero_mul, Int.add_zero] at hv
    have hN := hn hu
    refine ⟨⟨⟨hN, fun h0 => ?_⟩, ?_, hl4⟩, trivial⟩
    · have : vl l = 0 := by have := zv_zero (n := false) h0; unfold zv at this; rw [if_neg (by decide)] at this; exact this
      rw [decide_eq_false_iff_not]
      split at hs <;> omega
    · unfold zv
      by_cases h : n < 0
      · rw [if_pos (by simpa using h), hv, hs, if_pos h]; omega
      · rw [if_neg (by simpa using h), hv, hs, if_neg h]

theorem fracQ_zero {d : Int} : fracQ 0 d = 0 := by
  unfold fracQ
  split
  · rfl
  · exact Rat.zero_divInt d
theorem fracQ_low {n d : Int} (h : d < 1) : fracQ n d = 0 := by unfold fracQ; rw [if_pos h]
theorem fracQ_eq {n d : Int} (h : 1 ≤ d) : fracQ n d = Rat.divInt n d := by unfold fracQ; rw [if_neg (by omega)]

theorem kFrac_ok : V_kFrac := by
  intro n rn d rd _
  rw [rng64] at rn rd
  have zero : ∀ (h : fracQ n d = 0), p_kWhole 1 ∧ ∀ b2 : Bool, ∀ s3 : Sl, Ranged s3 [some .u16] → q_kWhole 1 (decide (b2 = true)) s3 → q_kFrac n d (decide False) Sl.nil (decide (b2 = true)) s3 ∧ True := fun h => ⟨trivial, fun b s rs hw => by
    simp only [Bool.decide_eq_true] at hw ⊢
    refine ⟨⟨?_, by decide, hw.2.2⟩, trivial⟩
    rw [h]
    have z : zv (decide False) Sl.nil = 0 := zv_zero rfl
    exact isQ_int (n := 0) (ranged16 rs) ⟨nrm_nil, fun _ => rfl⟩ z hw.1 hw.2.1⟩
  refine ⟨fun h => zero (fracQ_low h), fun h1 => ⟨fun h => zero (by rw [h]; exact fracQ_zero), fun hn0 => ?_⟩⟩
  refine ⟨fun s => s = (if n < 0 then -n else n), ⟨fun h => ?_, fun h => ?_⟩, fun s rs hs => ?_⟩
  · rw [if_pos h, wu64, wu64]; omega
  · rw [if_neg h, wu64]; omega
  have hs : s = (if n < 0 then -n else n) := hs
  have hs0 : 0 < s ∧ s ≤ 9223372036854775808 := by rw [hs]; split <;> omega
  have gs : Int.gcd s d = Int.gcd n d := by
    rw [hs]; split
    · exact Int.neg_gcd
    · rfl
  have wd : IntKind.wrap .u64 d = d := by rw [wu64]; omega
  rw [wd]
  refine ⟨fun a b => 0 ≤ a ∧ 0 ≤ b ∧ b ≤ 9223372036854775807 ∧ (Int.gcd a b = Int.gcd n d), fun _ b => b.toNat, ⟨by omega, by omega, by omega, gs⟩, fun a ra b rb hj => ?_⟩
  obtain ⟨a0, b0, b1, hg⟩ := hj
  refine ⟨fun hp => ?_, fun hz => ?_⟩
  · rw [Int.tmod_eq_emod_of_nonneg a0]
    have m0 := Int.emod_nonneg a (show b ≠ 0 by omega)
    have m1 := Int.emod_lt_of_pos a hp
    refine ⟨by omega, rngu64.2 (by omega), ⟨by omega, m0, by omega, ?_⟩, by show (a % b).toNat < b.toNat; omega⟩
    rw [← hg]
    have e := Int.mul_ediv_add_emod a b
    exact gcd_div (x := a) (y := b) (q := a / b) (r := a % b) (by omega)
  · have hb : b = 0 := by omega
    subst hb
    have ga : a = (Int.gcd n d : Nat) := by
      rw [← hg, Int.gcd_zero_right]; omega
    have gd : a ∣ d := by rw [ga]; exact Int.gcd_dvd_right ..
    have gn : a ∣ n := by rw [ga]; exact Int.gcd_dvd_left ..
    have apos : 0 < a := by
      rcases Int.lt_or_eq_of_le a0 with h | h
      · exact h
      · rw [← h] at gd; have := Int.zero_dvd.1 gd; omega
    have ad : a ≤ d := Int.le_of_dvd (by omega) gd
    have wa : IntKind.wrap .i64 a = a := wrap_id .i64 _ (by show (-9223372036854775808 : Int) ≤ _ ∧ _ ≤ (9223372036854775807 : Int); omega)
    rw [wa, Int.tdiv_eq_ediv_of_dvd gn, Int.tdiv_eq_ediv_of_dvd gd]
    obtain ⟨kn, hkn⟩ := gn
    obtain ⟨kd, hkd⟩ := gd
    have en : n / a = kn := by rw [hkn]; exact Int.mul_ediv_cancel_left _ (by omega)
    have ed : d / a = kd := by rw [hkd]; exact Int.mul_ediv_cancel_left _ (by omega)
    have bn : -9223372036854775808 ≤ kn ∧ kn ≤ 9223372036854775807 := by
      rcases Int.lt_or_le kn 0 with h | h
      · have : a * kn ≤ 1 * kn := Int.mul_le_mul_of_nonpos_right (by omega) (by omega)
        omega
      · have : 1 * kn ≤ a * kn := Int.mul_le_mul_of_nonneg_right (by omega) h
        omega
    have bd : 0 ≤ kd ∧ kd ≤ 9223372036854775807 := by
      have h0 : 0 ≤ kd := by
        rw [← ed]; exact Int.ediv_nonneg (by omega) (by omega)
      have : 1 * kd ≤ a * kd := Int.mul_le_mul_of_nonneg_right (by omega) h0
      omega
    rw [en, ed]
    refine ⟨by omega, by rw [rng64]; omega, by omega, by rw [rng64]; omega, trivial, fun x l rl hx => ⟨trivial, fun y k rk hy => ⟨?_, trivial⟩⟩⟩
    simp only [Bool.decide_eq_true] at hx hy ⊢
    refine ⟨?_, hx.2.2, hy.2.2⟩
    rw [fracQ_eq (by omega)]
    exact isQ_of_div (g := a) (ranged16 rk) hx.1 hy.1 (by omega) ga (by rw [hx.2.1, en]) (by rw [hy.2.1, ed])

end Go.Sx.N
