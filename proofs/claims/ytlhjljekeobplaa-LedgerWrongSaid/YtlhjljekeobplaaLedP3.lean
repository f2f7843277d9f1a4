/-
  The conditions of the ledger's functions, third part: Total, Balance. Conditions: none.
-/
import Derived.Test.YtlhjljekeobplaaLedP2
namespace Go.Sx.L

theorem Total_ok : V_Total := by
  intro st _ d p k _ _
  refine ⟨trivial, fun b hb => ⟨fun hn => ⟨?_, trivial⟩, fun hn => ?_⟩⟩
  · have : ¬ validS st d p := fun hv => hn (by simpa using hb.2 hv)
    exact ⟨fun _ => ⟨rfl, rfl⟩, fun hv => absurd hv this⟩
  have hv : validS st d p := hb.1 (by simpa using hn)
  have bad : ¬ (1 ≤ k ∧ k ≤ 6) → q_Total st d p k 0 2 := fun h => ⟨fun _ => ⟨rfl, rfl⟩, fun _ h1 h2 => absurd ⟨h1, h2⟩ h⟩
  refine ⟨fun h => ⟨bad (by omega), trivial⟩, fun h1 => ⟨fun h => ⟨bad (by omega), trivial⟩, fun h2 hsm => ?_⟩⟩
  have hp : (p.n : Int) ≤ 4000 := hv.2.2.1
  have hf := hv.2.2.2
  obtain ⟨f, hff⟩ : ∃ f : Int → Int, f = fun i => if p.int i 2 = k then p.int i 3 else 0 := ⟨_, rfl⟩
  have hbound : ∀ i : Int, 0 ≤ i → i < (p.n : Int) → -1099511627776 ≤ f i ∧ f i ≤ 1099511627776 := fun i h0 h1 => by
    have := amt_bound (hf i h0 h1)
    rw [hff]
    show -1099511627776 ≤ (if p.int i 2 = k then p.int i 3 else 0) ∧ (if p.int i 2 = k then p.int i 3 else 0) ≤ 1099511627776
    split <;> omega
  obtain ⟨J, hJ⟩ : ∃ J : Int → Int → Prop, J = fun x i => 0 ≤ i ∧ i ≤ p.len ∧ x = sumTo f i.toNat := ⟨_, rfl⟩
  obtain ⟨m, hm⟩ : ∃ m : Int → Int → Nat, m = fun _ i => (p.len - i).toNat := ⟨_, rfl⟩
  refine ⟨J, m, by rw [hJ]; exact ⟨Int.le_refl _, len0 p, rfl⟩, fun x hx i hi hj => ?_⟩
  rw [hJ] at hj
  obtain ⟨h0, h1', hxs⟩ := hj
  refine ⟨fun hlt => ⟨h0, hlt, fun _ _ _ _ => ?_⟩, fun hge => ?_⟩
  · obtain ⟨s1, s2, s3⟩ := sum_loop hp hbound h0 hlt hxs
    have hfi : f i = if p.int i 2 = k then p.int i 3 else 0 := by rw [hff]
    have fin : ∀ y, f i = y → Rng .i64 (x + y) ∧ Rng .i64 (i + 1) ∧ J (x + y) (i + 1) ∧ m (x + y) (i + 1) < m x i := fun y hy => by
      rw [← hy]
      refine ⟨s1, s2, ?_, ?_⟩
      · rw [hJ]; exact ⟨by omega, by omega, s3⟩
      · rw [hm]; show (p.len - (i + 1)).toNat < (p.len - i).toNat; omega
    exact ⟨fun h => fin 0 (by rw [hfi, if_neg h]), fun h => fin _ (by rw [hfi, if_pos (Classical.not_not.1 h)])⟩
  · refine ⟨?_, trivial⟩
    have : i.toNat = p.n := by unfold Sl.len at *; omega
    rw [this, hff] at hxs
    exact ⟨fun h => absurd ⟨hv, by omega, by omega⟩ h, fun _ _ _ => ⟨hxs, rfl⟩⟩

theorem Balance_ok : V_Balance := by
  intro st _ d p bf _ _
  refine ⟨trivial, fun b hb => ⟨fun hn => ⟨?_, trivial⟩, fun hn hsd => ?_⟩⟩
  · have : ¬ validS st d p := fun hv => hn (by simpa using hb.2 hv)
    exact ⟨fun _ => ⟨rfl, rfl⟩, fun hv => absurd hv this⟩
  have hv : validS st d p := hb.1 (by simpa using hn)
  have hb := hv.1
  have hd0 := len0 d
  have hl : st ≤ lastS st d.len bf ∧ lastS st d.len bf ≤ st + d.len := by
    unfold lastS imin imax
    split <;> split <;> omega
  have e : imin (imax bf st) (st + d.len) = lastS st d.len bf := rfl
  rw [e]
  obtain ⟨n, hn⟩ : ∃ n : Nat, (n : Int) = lastS st d.len bf - st := ⟨(lastS st d.len bf - st).toNat, by omega⟩
  rw [← hn]
  have hlen : (Sl.part d 0 (n : Int)).len = (n : Int) := by simp [Sl.part, Sl.len]
  have hint : ∀ i : Int, 0 ≤ i → (Sl.part d 0 (n : Int)).int i 0 = d.int i 0 := fun i _ => by simp [Sl.part, Sl.int]
  refine ⟨by rw [rng64]; omega, by rw [rng64]; omega, Int.le_refl _, by omega, by omega, fun _ => ?_⟩
  have hdb : ∀ i : Int, 0 ≤ i → i < (n : Int) → -1099511627776 ≤ d.int i 0 ∧ d.int i 0 ≤ 1099511627776 := fun i h0 h1 => by
    have := hv.2.1 i h0 (by omega); omega
  obtain ⟨J, hJ⟩ : ∃ J : Int → Int → Prop, J = fun x i => 0 ≤ i ∧ i ≤ (n : Int) ∧ x = sumTo (fun i => d.int i 0) i.toNat := ⟨_, rfl⟩
  obtain ⟨m, hm⟩ : ∃ m : Int → Int → Nat, m = fun _ i => ((n : Int) - i).toNat := ⟨_, rfl⟩
  refine ⟨J, m, by rw [hJ]; exact ⟨Int.le_refl _, by omega, rfl⟩, fun x hx i hi hj => ?_⟩
  rw [hJ] at hj
  obtain ⟨h0, h1, hxs⟩ := hj
  rw [hlen]
  refine ⟨fun hlt => ⟨h0, hlt, fun _ => ?_⟩, fun hge hsm => ?_⟩
  · rw [hint i h0]
    obtain ⟨s1, s2, s3⟩ := sum_loop (n := n) (by omega) hdb h0 hlt hxs
    refine ⟨s1, s2, ?_, ?_⟩
    · rw [hJ]; exact ⟨by omega, by omega, s3⟩
    · rw [hm]; show ((n : Int) - (i + 1)).toNat < ((n : Int) - i).toNat; omega
  have hx1 : x = sumTo (fun i => d.int i 0) n := by rw [hxs]; congr 1; omega
  have hp : (p.n : Int) ≤ 4000 := hv.2.2.1
  have hf := hv.2.2.2
  obtain ⟨f, hff⟩ : ∃ f : Int → Int, f = fun i => if p.int i 1 < bf then prin p i else 0 := ⟨_, rfl⟩
  have hbound : ∀ i : Int, 0 ≤ i → i < (p.n : Int) → -1099511627776 ≤ f i ∧ f i ≤ 1099511627776 := fun i h0 h1 => by
    have := prin_bound (hf i h0 h1)
    rw [hff]
    show -1099511627776 ≤ (if p.int i 1 < bf then prin p i else 0) ∧ (if p.int i 1 < bf then prin p i else 0) ≤ 1099511627776
    split <;> omega
  obtain ⟨J2, hJ2⟩ : ∃ J : Int → Int → Prop, J = fun x i => 0 ≤ i ∧ i ≤ p.len ∧ x = sumTo f i.toNat := ⟨_, rfl⟩
  obtain ⟨m2, hm2⟩ : ∃ m : Int → Int → Nat, m = fun _ i => (p.len - i).toNat := ⟨_, rfl⟩
  refine ⟨J2, m2, by rw [hJ2]; exact ⟨Int.le_refl _, len0 p, rfl⟩, fun y hy k hk hj => ?_⟩
  rw [hJ2] at hj
  obtain ⟨k0, k1, hys⟩ := hj
  refine ⟨fun hlt => ⟨k0, hlt, fun _ _ _ _ => ?_⟩, fun hge => ?_⟩
  · obtain ⟨s1, s2, s3⟩ := sum_loop hp hbound k0 hlt hys
    have hfi : f k = if p.int k 1 < bf then (if p.int k 2 = 3 then 0 else p.int k 3) else 0 := by rw [hff]; rfl
    have fin : ∀ z, f k = z → Rng .i64 (y + z) ∧ Rng .i64 (k + 1) ∧ J2 (y + z) (k + 1) ∧ m2 (y + z) (k + 1) < m2 y k := fun z hz => by
      rw [← hz]
      refine ⟨s1, s2, ?_, ?_⟩
      · rw [hJ2]; exact ⟨by omega, by omega, s3⟩
      · rw [hm2]; show (p.len - (k + 1)).toNat < (p.len - k).toNat; omega
    refine ⟨fun h => fin 0 (by rw [hfi, if_neg (by omega)]), fun h => ⟨fun g => fin 0 ?_, fun g => fin _ ?_⟩⟩
    · rw [hfi, if_pos (by omega), if_pos g]
    · rw [hfi, if_pos (by omega), if_neg g]
  · have e2 : k.toNat = p.n := by unfold Sl.len at *; omega
    rw [e2] at hys
    have b1 := sumTo_bound hdb
    have b2 := sumTo_bound hbound
    refine ⟨by rw [rng64]; omega, ⟨fun h => absurd hv h, fun _ => ⟨?_, rfl⟩⟩, trivial⟩
    unfold balS
    rw [← hn, hx1, hys, hff]
    rfl

end Go.Sx.L
