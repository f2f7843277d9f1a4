/-
  LedgerAddsUp's condition. Conditions: none.
-/
import Derived.Test.YtlhjljekeobplaaLedP8
import Derived.Test.YtlhjljekeobplaaLedVAddsUp
namespace Go.Sx.L

theorem sum_months {p : Sl} {st : Int} : ∀ (n : Nat), sumTo (fun j => postedS p (st + j)) n = sumTo (fun k => if st ≤ p.int k 1 ∧ p.int k 1 < st + n then prin p k else 0) p.n
  | 0 => by
    simp only [sumTo]
    exact (sumTo_zero fun k _ _ => by rw [if_neg (by omega)]).symm
  | n + 1 => by
    simp only [sumTo]
    rw [sum_months n]
    unfold postedS
    refine (sumTo_add fun k _ _ => ?_).symm
    show (if st ≤ p.int k 1 ∧ p.int k 1 < st + ((n + 1 : Nat) : Int) then prin p k else 0) = (if st ≤ p.int k 1 ∧ p.int k 1 < st + (n : Int) then prin p k else 0) + (if p.int k 1 = st + (n : Int) then prin p k else 0)
    by_cases a : st ≤ p.int k 1 ∧ p.int k 1 < st + (n : Int)
    · rw [if_pos (by omega), if_pos a, if_neg (by omega)]; omega
    · by_cases b : p.int k 1 = st + (n : Int)
      · rw [if_pos (by omega), if_neg a, if_pos b]; omega
      · rw [if_neg (by omega), if_neg a, if_neg b]; rfl

theorem sum_all {st : Int} {d p : Sl} (hv : validS st d p) : sumTo (fun j => postedS p (st + j)) d.n = sumTo (fun k => prin p k) p.n := by
  rw [sum_months]
  refine sumTo_congr fun k h0 h1 => ?_
  have := (hv.2.2.2 k h0 h1).1.1
  have e : ((d.n : Nat) : Int) = d.len := rfl
  show (if st ≤ p.int k 1 ∧ p.int k 1 < st + ((d.n : Nat) : Int) then prin p k else 0) = prin p k
  rw [if_pos (by omega)]

theorem totals {st : Int} {d p : Sl} (hv : validS st d p) : totalS p 1 + totalS p 2 + totalS p 4 + totalS p 5 + totalS p 6 = sumTo (fun k => prin p k) p.n := by
  unfold totalS
  rw [← sumTo_add (f := fun i => if p.int i 2 = 1 then p.int i 3 else 0) (g := fun i => if p.int i 2 = 2 then p.int i 3 else 0) (h := fun i => if p.int i 2 = 1 ∨ p.int i 2 = 2 then p.int i 3 else 0) (fun k _ _ => by grind),
    ← sumTo_add (h := fun i => if p.int i 2 = 1 ∨ p.int i 2 = 2 ∨ p.int i 2 = 4 then p.int i 3 else 0) (fun k _ _ => by grind),
    ← sumTo_add (h := fun i => if p.int i 2 = 1 ∨ p.int i 2 = 2 ∨ p.int i 2 = 4 ∨ p.int i 2 = 5 then p.int i 3 else 0) (fun k _ _ => by grind),
    ← sumTo_add (h := fun i => if p.int i 2 = 1 ∨ p.int i 2 = 2 ∨ p.int i 2 = 4 ∨ p.int i 2 = 5 ∨ p.int i 2 = 6 then p.int i 3 else 0) (fun k _ _ => by grind)]
  refine sumTo_congr fun k h0 h1 => ?_
  have := (hv.2.2.2 k h0 h1).1.2
  show (if p.int k 2 = 1 ∨ p.int k 2 = 2 ∨ p.int k 2 = 4 ∨ p.int k 2 = 5 ∨ p.int k 2 = 6 then p.int k 3 else 0) = (if p.int k 2 = 3 then 0 else p.int k 3)
  by_cases h : p.int k 2 = 3
  · rw [if_neg (by omega), if_pos h]
  · rw [if_pos (by omega), if_neg h]

theorem totalS_bound {st : Int} {d p : Sl} (hv : validS st d p) (k : Int) : -(1099511627776 * 4000) ≤ totalS p k ∧ totalS p k ≤ 1099511627776 * 4000 := by
  have hp : (p.n : Int) ≤ 4000 := hv.2.2.1
  have b := sumTo_bound (f := fun i => if p.int i 2 = k then p.int i 3 else 0) (n := p.n) (fun i h0 h1 => by
    have := amt_bound (hv.2.2.2 i h0 h1)
    show -1099511627776 ≤ (if p.int i 2 = k then p.int i 3 else 0) ∧ (if p.int i 2 = k then p.int i 3 else 0) ≤ 1099511627776
    split <;> omega)
  unfold totalS
  omega

theorem bal_top {st : Int} {d p : Sl} (hv : validS st d p) : balS st d p 2400 = sumTo (fun i => d.int i 0) d.n - sumTo (fun k => prin p k) p.n := by
  have hd0 := len0 d
  have hb := hv.1
  have h1 : (lastS st d.len 2400 - st).toNat = d.n := by unfold lastS imin imax Sl.len at *; split <;> (try split) <;> omega
  unfold balS
  rw [h1]
  congr 1
  refine sumTo_congr fun k h0 h1 => ?_
  have := (hv.2.2.2 k h0 h1).1.1
  show (if p.int k 1 < 2400 then prin p k else 0) = prin p k
  rw [if_pos (by omega)]

theorem AddsUp_ok : V_AddsUp := by
  intro st _ d p _
  have aw : p_awake ∧ ∀ b4 : Bool, q_awake (decide (b4 = true)) → q_AddsUp st d p (decide (b4 = true)) ∧ True := ⟨trivial, fun b hb => ⟨hb, trivial⟩⟩
  refine ⟨trivial, fun u hu => ⟨fun _ => aw, fun hn _ => ?_⟩⟩
  obtain ⟨hu1, hu2, hv⟩ := hu.1 (by simpa using hn)
  have hbs := hv.1
  have hd0 := len0 d
  have hdn : ((d.n : Nat) : Int) = d.len := rfl
  have rs : ∀ x : Int, -9223372036854775808 ≤ x ∧ x ≤ 9223372036854775807 → Rng .i64 x := fun x h => h
  obtain ⟨D, hD⟩ : ∃ D : Int → Int, D = fun i => d.int i 0 := ⟨_, rfl⟩
  obtain ⟨S, hS⟩ : ∃ S : Int → Int, S = fun j => postedS p (st + j) := ⟨_, rfl⟩
  have bD : ∀ n : Nat, (n : Int) ≤ d.len → -(1099511627776 * (n : Int)) ≤ sumTo D n ∧ sumTo D n ≤ 1099511627776 * (n : Int) := fun n h => sumTo_bound fun i h0 h1 => by
    have := hv.2.1 i h0 (by omega)
    rw [hD]
    show -1099511627776 ≤ d.int i 0 ∧ d.int i 0 ≤ 1099511627776
    omega
  have bS : ∀ n : Nat, -(1099511627776 * 4000) ≤ sumTo S n ∧ sumTo S n ≤ 1099511627776 * 4000 := fun n => by
    have hp : (p.n : Int) ≤ 4000 := hv.2.2.1
    rw [hS, sum_months]
    have := sumTo_bound (f := fun k => if st ≤ p.int k 1 ∧ p.int k 1 < st + (n : Int) then prin p k else 0) (n := p.n) (fun i h0 h1 => by
      have := prin_bound (hv.2.2.2 i h0 h1)
      show -1099511627776 ≤ (if st ≤ p.int i 1 ∧ p.int i 1 < st + (n : Int) then prin p i else 0) ∧ (if st ≤ p.int i 1 ∧ p.int i 1 < st + (n : Int) then prin p i else 0) ≤ 1099511627776
      split <;> omega)
    omega
  refine ⟨fun due pos i => 0 ≤ i ∧ i ≤ d.len ∧ due = sumTo D i.toNat ∧ pos = sumTo S i.toNat, fun _ _ i => (d.len - i).toNat, ⟨Int.le_refl _, hd0, rfl, rfl⟩, fun due _ pos _ i hi ⟨h0, h1, hdue, hpos⟩ => ⟨fun hlt => ?_, fun hge _ => ?_⟩⟩
  · refine ⟨h0, hlt, fun _ => ⟨rs _ (by omega), trivial, fun a _ ea _ hqa => ⟨rs _ (by omega), trivial, fun o _ eo _ hqo => ?_⟩⟩⟩
    obtain ⟨ha, hea⟩ := (hqa.2 hv).2 ⟨by omega, by omega⟩
    obtain ⟨ho, heo⟩ := (hqo.2 hv).2 ⟨by omega, by omega⟩
    have ei : st + i - st = i := by omega
    rw [ei] at ho
    have pb := postedS_bound hv (st + i)
    have db := hv.2.1 i h0 hlt
    have b1 := bD (i + 1).toNat (by omega)
    have b2 := bS (i + 1).toNat
    have e1 := sumTo_succ D h0
    have e2 := sumTo_succ S h0
    have eD : D i = d.int i 0 := by rw [hD]
    have eS : S i = postedS p (st + i) := by rw [hS]
    rw [eD] at e1
    rw [eS] at e2
    refine ⟨fun h => absurd hea h, fun _ => ⟨fun h => absurd heo h, fun _ => ⟨rs _ (by omega), fun h => absurd (by omega) h, fun _ => ⟨rs _ (by omega), rs _ (by omega), rs _ (by omega), ⟨by omega, by omega, by omega, by omega⟩, ?_⟩⟩⟩⟩
    show (d.len - (i + 1)).toNat < (d.len - i).toNat
    omega
  · have hin : i.toNat = d.n := by omega
    rw [hin] at hdue hpos
    have hsum := sum_all hv
    have htot := totals hv
    have hbal := bal_top hv
    rw [hD] at hdue
    rw [hS] at hpos
    have b1 := totalS_bound hv 1
    have b2 := totalS_bound hv 2
    have b4 := totalS_bound hv 4
    have b5 := totalS_bound hv 5
    have b6 := totalS_bound hv 6
    have bb := bal_bound hv 2400
    obtain ⟨kk, hkk⟩ : ∃ s : Sl, s = Sl.lit [[(.int 1)], [(.int 2)], [(.int 4)], [(.int 5)], [(.int 6)]] := ⟨_, rfl⟩
    have hlen : kk.len = 5 := by rw [hkk]; rfl
    have k0 : kk.int 0 0 = 1 := by rw [hkk]; rfl
    have k1 : kk.int 1 0 = 2 := by rw [hkk]; rfl
    have k2 : kk.int 2 0 = 4 := by rw [hkk]; rfl
    have k3 : kk.int 3 0 = 5 := by rw [hkk]; rfl
    have k4 : kk.int 4 0 = 6 := by rw [hkk]; rfl
    rw [← hkk]
    obtain ⟨J, hJ⟩ : ∃ J : Int → Int → Prop, J = fun t i => (i = 0 ∧ t = 0) ∨ (i = 1 ∧ t = totalS p 1) ∨ (i = 2 ∧ t = totalS p 1 + totalS p 2) ∨ (i = 3 ∧ t = totalS p 1 + totalS p 2 + totalS p 4) ∨ (i = 4 ∧ t = totalS p 1 + totalS p 2 + totalS p 4 + totalS p 5) ∨ (i = 5 ∧ t = totalS p 1 + totalS p 2 + totalS p 4 + totalS p 5 + totalS p 6) := ⟨_, rfl⟩
    refine ⟨J, fun _ i => (5 - i).toNat, by rw [hJ]; exact .inl ⟨rfl, rfl⟩, fun t _ j _ hj => ?_⟩
    have step : ∀ k x e : Int, (1 ≤ k ∧ k ≤ 6) → q_Total st d p k x e → x = totalS p k ∧ e = 0 := fun k x e hk hq => hq.2 hv hk.1 hk.2
    rw [hlen]
    have hj' := hj
    rw [hJ] at hj'
    refine ⟨fun hlt => ⟨by omega, hlt, fun _ => ⟨trivial, fun x _ e _ hq => ?_⟩⟩, fun hge => ?_⟩
    · have fin : x = totalS p (kk.int j 0) ∧ e = 0 → (e ≠ 0 → q_AddsUp st d p (decide False) ∧ True) ∧ (¬ e ≠ 0 → Rng .i64 (t + x) ∧ Rng .i64 (j + 1) ∧ J (t + x) (j + 1) ∧ (5 - (j + 1)).toNat < (5 - j).toNat) := fun ⟨hx, he⟩ => by
        refine ⟨fun h => absurd he h, fun _ => ⟨rs _ ?_, rs _ (by omega), ?_, by omega⟩⟩
        · rcases hj' with h | h | h | h | h | h <;> obtain ⟨rfl, rfl⟩ := h <;> first | omega | (simp only [k0, k1, k2, k3, k4] at hx; omega)
        · rw [hJ]
          rcases hj' with h | h | h | h | h | h <;> obtain ⟨rfl, rfl⟩ := h <;> first | omega | (simp only [k0, k1, k2, k3, k4] at hx; omega)
      refine fin (step _ _ _ ?_ hq)
      rcases hj' with h | h | h | h | h | h <;> obtain ⟨rfl, rfl⟩ := h <;> first | omega | (simp only [k0, k1, k2, k3, k4]; omega)
    · refine ⟨trivial, fun b _ e _ hq => ?_⟩
      obtain ⟨hb, he⟩ := hq.2 hv
      have ht : t = totalS p 1 + totalS p 2 + totalS p 4 + totalS p 5 + totalS p 6 := by
        rcases hj' with h | h | h | h | h | h <;> omega
      refine ⟨fun _ => ⟨fun _ => ⟨rs _ (by omega), fun _ => aw, fun h => absurd (by omega) h⟩, fun h => absurd (by omega) h⟩, fun h => absurd he h⟩

end Go.Sx.L
