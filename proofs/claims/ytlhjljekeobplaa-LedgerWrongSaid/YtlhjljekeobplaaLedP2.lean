/-
  The conditions of the ledger's functions, second part: posted, Posted, Open, Total, Balance. Conditions: none.
-/
import Derived.Test.YtlhjljekeobplaaLedP1
namespace Go.Sx.L

theorem sumTo_succ (f : Int → Int) {i : Int} (h : 0 ≤ i) : sumTo f (i + 1).toNat = sumTo f i.toNat + f i := by
  have : (i + 1).toNat = i.toNat + 1 := by omega
  rw [this]
  simp only [sumTo]
  rw [Int.toNat_of_nonneg h]

theorem sumTo_bound {f : Int → Int} : ∀ {n : Nat}, (∀ i : Int, 0 ≤ i → i < n → -1099511627776 ≤ f i ∧ f i ≤ 1099511627776) → -(1099511627776 * (n : Int)) ≤ sumTo f n ∧ sumTo f n ≤ 1099511627776 * (n : Int)
  | 0, _ => by simp [sumTo]
  | n + 1, h => by
    have h1 := sumTo_bound (f := f) (n := n) (fun i h0 h1 => h i h0 (by omega))
    have h2 := h n (by omega) (by omega)
    simp only [sumTo]
    omega

theorem amt_bound {st n : Int} {p : Sl} {d0 i : Int} (h : okAt st n p d0 i) : -1099511627776 ≤ p.int i 3 ∧ p.int i 3 ≤ 1099511627776 := by
  have h := h.1.2
  omega

theorem prin_bound {st n : Int} {p : Sl} {d0 i : Int} (h : okAt st n p d0 i) : -1099511627776 ≤ prin p i ∧ prin p i ≤ 1099511627776 := by
  have h := amt_bound h
  unfold prin
  split <;> omega

/-- A loop that adds up. -/
theorem sum_loop {f : Int → Int} {n : Nat} (hn : (n : Int) ≤ 4000) (hf : ∀ i : Int, 0 ≤ i → i < n → -1099511627776 ≤ f i ∧ f i ≤ 1099511627776) {x i : Int} (h0 : 0 ≤ i) (h1 : i < n) (hx : x = sumTo f i.toNat) :
    Rng .i64 (x + f i) ∧ Rng .i64 (i + 1) ∧ x + f i = sumTo f (i + 1).toNat := by
  have e := sumTo_succ f h0
  have hb := sumTo_bound (f := f) (n := (i + 1).toNat) (fun k g0 g1 => hf k g0 (by omega))
  rw [e, ← hx] at hb
  refine ⟨?_, ?_, by rw [e, hx]⟩
  · rw [rng64]; omega
  · rw [rng64]; omega

theorem posted_ok : V_posted := by
  intro st _ d p mo _ hv hsm
  obtain ⟨hb, hd, hp, hf⟩ : validS st d p := hv
  obtain ⟨f, hff⟩ : ∃ f : Int → Int, f = fun i => if p.int i 1 = mo then prin p i else 0 := ⟨_, rfl⟩
  have hbound : ∀ i : Int, 0 ≤ i → i < (p.n : Int) → -1099511627776 ≤ f i ∧ f i ≤ 1099511627776 := fun i h0 h1 => by
    have := prin_bound (hf i h0 h1)
    rw [hff]
    show -1099511627776 ≤ (if p.int i 1 = mo then prin p i else 0) ∧ (if p.int i 1 = mo then prin p i else 0) ≤ 1099511627776
    split <;> omega
  obtain ⟨J, hJ⟩ : ∃ J : Int → Int → Prop, J = fun x i => 0 ≤ i ∧ i ≤ p.len ∧ x = sumTo f i.toNat := ⟨_, rfl⟩
  obtain ⟨m, hm⟩ : ∃ m : Int → Int → Nat, m = fun _ i => (p.len - i).toNat := ⟨_, rfl⟩
  refine ⟨J, m, by rw [hJ]; exact ⟨Int.le_refl _, len0 p, rfl⟩, fun x hx i hi hj => ?_⟩
  rw [hJ] at hj
  obtain ⟨h0, h1, hxs⟩ := hj
  refine ⟨fun hlt => ⟨h0, hlt, fun _ _ _ _ => ?_⟩, fun hge => ?_⟩
  · obtain ⟨s1, s2, s3⟩ := sum_loop hp hbound h0 hlt hxs
    have hfi : f i = if p.int i 1 = mo then (if p.int i 2 = 3 then 0 else p.int i 3) else 0 := by rw [hff]; rfl
    have fin : ∀ y, f i = y → Rng .i64 (x + y) ∧ Rng .i64 (i + 1) ∧ J (x + y) (i + 1) ∧ m (x + y) (i + 1) < m x i := fun y hy => by
      rw [← hy]
      refine ⟨s1, s2, ?_, ?_⟩
      · rw [hJ]; exact ⟨by omega, by omega, s3⟩
      · rw [hm]; show (p.len - (i + 1)).toNat < (p.len - i).toNat; omega
    refine ⟨fun h => fin 0 (by rw [hfi, if_neg h]), fun h => ⟨fun g => fin 0 ?_, fun g => fin _ ?_⟩⟩
    · rw [hfi, if_pos (Classical.not_not.1 h), if_pos g]
    · rw [hfi, if_pos (Classical.not_not.1 h), if_neg g]
  · refine ⟨?_, trivial⟩
    have : i.toNat = p.n := by unfold Sl.len at *; omega
    rw [this] at hxs
    rw [hff] at hxs
    exact hxs

theorem Posted_ok : V_Posted := by
  intro st _ d p mo _ _
  refine ⟨trivial, fun b hb => ⟨fun hn => ⟨?_, trivial⟩, fun hn => ?_⟩⟩
  · have : ¬ validS st d p := fun hv => hn (by simpa using hb.2 hv)
    exact ⟨fun _ => ⟨rfl, rfl⟩, fun hv => absurd hv this⟩
  · have hv : validS st d p := hb.1 (by simpa using hn)
    refine ⟨⟨hv.1.1, hv.1.2.1, hv.1.2.2.1⟩, fun c hc => ⟨fun hn => ⟨?_, trivial⟩, fun hn => ⟨hv, fun x _ hx => ⟨?_, trivial⟩⟩⟩⟩
    · have hm : ¬ hasS st d mo := fun h => hn (by simpa using hc.2 h)
      exact ⟨fun h => absurd hv h, fun _ => ⟨fun _ => ⟨rfl, rfl⟩, fun h => absurd h hm⟩⟩
    · have hm : hasS st d mo := hc.1 (by simpa using hn)
      exact ⟨fun h => absurd hv h, fun _ => ⟨fun h => absurd hm h, fun _ => ⟨hx, rfl⟩⟩⟩

theorem postedS_bound {st : Int} {d p : Sl} (hv : validS st d p) (mo : Int) : -(1099511627776 * 4000) ≤ postedS p mo ∧ postedS p mo ≤ 1099511627776 * 4000 := by
  have hp : (p.n : Int) ≤ 4000 := hv.2.2.1
  have := sumTo_bound (f := fun i => if p.int i 1 = mo then prin p i else 0) (n := p.n) (fun i h0 h1 => by
    have := prin_bound (hv.2.2.2 i h0 h1)
    show -1099511627776 ≤ (if p.int i 1 = mo then prin p i else 0) ∧ (if p.int i 1 = mo then prin p i else 0) ≤ 1099511627776
    split <;> omega)
  unfold postedS
  omega

theorem Open_ok : V_Open := by
  intro st _ d p mo _ _
  refine ⟨trivial, fun b hb => ⟨fun hn => ⟨?_, trivial⟩, fun hn => ?_⟩⟩
  · have : ¬ validS st d p := fun hv => hn (by simpa using hb.2 hv)
    exact ⟨fun _ => ⟨rfl, rfl⟩, fun hv => absurd hv this⟩
  · have hv : validS st d p := hb.1 (by simpa using hn)
    refine ⟨⟨hv.1.1, hv.1.2.1, hv.1.2.2.1⟩, fun c hc => ⟨fun hn => ⟨?_, trivial⟩, fun hn => ?_⟩⟩
    · have hm : ¬ hasS st d mo := fun h => hn (by simpa using hc.2 h)
      exact ⟨fun h => absurd hv h, fun _ => ⟨fun _ => ⟨rfl, rfl⟩, fun h => absurd h hm⟩⟩
    · have hm : hasS st d mo := hc.1 (by simpa using hn)
      obtain ⟨hm1, hm2⟩ := hm
      have hb := hv.1
      have hdu := hv.2.1 (mo - st) (by omega) (by omega)
      refine ⟨by rw [rng64]; omega, by omega, by omega, fun _ => ⟨hv, fun x _ hx => ⟨?_, ?_, trivial⟩⟩⟩
      · have hx : x = postedS p mo := hx
        have := postedS_bound hv mo
        rw [rng64]; omega
      · have hx : x = postedS p mo := hx
        exact ⟨fun h => absurd hv h, fun _ => ⟨fun h => absurd ⟨hm1, hm2⟩ h, fun _ => ⟨by rw [hx], rfl⟩⟩⟩

end Go.Sx.L
