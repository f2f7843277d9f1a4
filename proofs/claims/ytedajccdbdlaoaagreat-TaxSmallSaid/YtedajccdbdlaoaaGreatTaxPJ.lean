/-
  The condition of TaxSmall. Conditions: none.
-/
import Derived.Test.YtedajccdbdlaoaaGreatNumVTSmall
import Derived.Test.YtedajccdbdlaoaaGreatTaxFc
set_option linter.unusedVariables false
set_option linter.unusedSimpArgs false
namespace Go.Sx.N

theorem fitsB_two {x y : Int} {a c a' c' : Bool} {b d b' d' : Sl} (h : b.len + d.len ≤ 600) (g : b'.len + d'.len ≤ 600) :
    fitsB (Sl.lit [[.int x, .bool a, Sl.d b, .bool c, Sl.d d], [.int y, .bool a', Sl.d b', .bool c', Sl.d d']]) := by
  refine ⟨by show (2 : Int) ≤ 30; decide, fun i i0 i1 => ?_⟩
  have i1 : i < 2 := i1
  have : i = 0 ∨ i = 1 := by omega
  rcases this with rfl | rfl
  · exact h
  · exact g
theorem fitsB_three {x y z : Int} {a c a' c' a2 c2 : Bool} {b d b' d' b2 d2 : Sl} (h : b.len + d.len ≤ 600) (g : b'.len + d'.len ≤ 600) (k : b2.len + d2.len ≤ 600) :
    fitsB (Sl.lit [[.int x, .bool a, Sl.d b, .bool c, Sl.d d], [.int y, .bool a', Sl.d b', .bool c', Sl.d d'], [.int z, .bool a2, Sl.d b2, .bool c2, Sl.d d2]]) := by
  refine ⟨by show (3 : Int) ≤ 30; decide, fun i i0 i1 => ?_⟩
  have i1 : i < 3 := i1
  have : i = 0 ∨ i = 1 ∨ i = 2 := by omega
  rcases this with rfl | rfl | rfl
  · exact h
  · exact g
  · exact k
theorem sub_part {s : Sl} {l h i : Int} {j : Nat} (h0 : 0 ≤ l) (h1 : 0 ≤ i) : (Sl.part s l h).sub i j = s.sub (l + i) j := by
  unfold Sl.sub Sl.part
  have : (l + i).toNat = l.toNat + i.toNat := by omega
  rw [this]
theorem fitsB_part {l : Sl} (h : fitsB l) {a b : Int} (h0 : 0 ≤ a) (h1 : a ≤ b) (h2 : b ≤ l.len) : fitsB (Sl.part l a b) := by
  have e := len_part (s := l) h1
  refine ⟨by have := h.1; omega, fun i i0 i1 => ?_⟩
  rw [sub_part h0 i0, sub_part h0 i0]
  exact h.2 (a + i) (by omega) (by omega)
theorem small8 {q : Rat} {a c : Bool} {b d : Sl} (h : IsQ q a b c d ∧ b.len ≤ 4 ∧ d.len ≤ 4) : b.len + d.len ≤ 8 := by omega

theorem TSmall_ok : V_TSmall := by
  intro _
  simp only [Bool.decide_eq_true]
  refine ⟨by show (7 : Int) ≠ 0; decide, fun a1 b1 _ c1 d1 _ h1 => ⟨by show (5 : Int) ≠ 0; decide, fun a2 b2 _ c2 d2 _ h2 => ⟨trivial, fun a3 b3 _ c3 d3 _ h3 => ?_⟩⟩⟩
  refine ⟨fun m l => (-1 ≤ m ∧ m ≤ 15) ∧ fitsB l ∧ 1 ≤ l.len, fun m _ => (15 - m).toNat, ⟨by omega, fitsB_three (by have := small8 h1; omega) (by have := small8 h2; omega) (by have := small8 h3; omega), by show (1 : Int) ≤ 3; decide⟩, fun m _ l _ hJ => ?_⟩
  obtain ⟨hm, hl, hn⟩ := hJ
  refine ⟨fun hlt => ⟨fun g => -1 ≤ g ∧ g ≤ 61, fun g => (61 - g).toNat, by omega, fun g _ hg => ⟨fun hlt' => ?_, fun _ => ⟨by rw [rng64]; omega, ⟨⟨by omega, by omega⟩, hl, hn⟩, by show (15 - (m + 1)).toNat < (15 - m).toNat; omega⟩⟩⟩, fun hge => ?_⟩
  · refine ⟨hl, fun t ht => ⟨fun k => absurd ht k, fun _ => ⟨by decide, hn, by omega, fitsB_part hl (by omega) hn (by omega), fun t' ht' => ⟨fun k => absurd ht' k, fun _ => ⟨by decide, by decide, hn, fitsB_part hl (by omega) (by omega) hn, fun t2 ht2 => ⟨fun k => absurd ht2 k, fun _ => ⟨by rw [rng64]; omega, by omega, by show (61 - (g + 1)).toNat < (61 - g).toNat; omega⟩⟩⟩⟩⟩⟩⟩
  refine ⟨trivial, fun a1 b1 _ c1 d1 _ h1 => ⟨trivial, fun a2 b2 _ c2 d2 _ h2 => ⟨by show (1000000 : Int) ≠ 0; decide, fun a3 b3 _ c3 d3 _ h3 => ⟨by show (1000001 : Int) ≠ 0; decide, fun a4 b4 _ c4 d4 _ h4 => ⟨by show (1000000 : Int) ≠ 0; decide, fun a5 b5 _ c5 d5 _ h5 => ⟨by show (2 : Int) ≠ 0; decide, fun a6 b6 _ c6 d6 _ h6 => ⟨by show (2 : Int) ≠ 0; decide, fun a7 b7 _ c7 d7 _ h7 => ⟨trivial, fun z _ ok hz => ?_⟩⟩⟩⟩⟩⟩⟩⟩
  have hok : ok = true := hz.2 (by show (2 : Int) ≤ 31; decide) fun i i0 i1 => by
    have i1 : i < 2 := i1
    have : i = 0 ∨ i = 1 := by omega
    rcases this with rfl | rfl
    · exact hl
    · exact ⟨by show (0 : Int) ≤ 30; decide, fun k k0 k1 => by have k1 : k < 0 := k1; omega⟩
  have hy : sameY z (Sl.lit [[.int 1900, Sl.d l], [.int 1905, Sl.d Sl.nil]]) := hz.1 hok
  refine ⟨fun i ns rs => (0 ≤ i ∧ i ≤ 13) ∧ ns.len = 13 ∧ rs.len = 10 ∧ ∀ k : Int, 0 ≤ k → k < 10 → (rs.sub k 1).len + (rs.sub k 3).len ≤ 600, fun i _ _ => (13 - i).toNat, ⟨by omega, rfl, rfl, fun k k0 k1 => ?_⟩, fun i _ ns _ rs _ hJ _ => ?_⟩
  · have : k = 0 ∨ k = 1 ∨ k = 2 ∨ k = 3 ∨ k = 4 ∨ k = 5 ∨ k = 6 ∨ k = 7 ∨ k = 8 ∨ k = 9 := by omega
    rcases this with rfl | rfl | rfl | rfl | rfl | rfl | rfl | rfl | rfl | rfl
    · show b1.len + d1.len ≤ 600; have := small8 h1; omega
    · show b2.len + d2.len ≤ 600; have := small8 h2; omega
    · show b3.len + d3.len ≤ 600; have := small8 h3; omega
    · show b4.len + d4.len ≤ 600; have := small8 h4; omega
    · show b5.len + d5.len ≤ 600; have := small8 h5; omega
    · show b6.len + d6.len ≤ 600; have := small8 h6; omega
    · show b7.len + d7.len ≤ 600; have := small8 h7; omega
    · show (0 : Int) + 0 ≤ 600; decide
    · show (1 : Int) + 1 ≤ 600; decide
    · show (1 : Int) + 2 ≤ 600; decide
  obtain ⟨hi, hns, hrs, hk⟩ := hJ
  refine ⟨fun hlt => ⟨fun k => 0 ≤ k ∧ k ≤ 13, fun k => (13 - k).toNat, by omega, fun k _ hk' _ => ⟨fun hlt' => ?_, fun _ => ⟨by rw [rng64]; omega, ⟨⟨by omega, by omega⟩, hns, hrs, hk⟩, by show (13 - (i + 1)).toNat < (13 - i).toNat; omega⟩⟩⟩, fun _ => ?_⟩
  · have core : V_TSmall_0 l z i ns rs (fun k => 0 ≤ k ∧ k ≤ 13) (fun k => (13 - k).toNat) k := by
      unfold V_TSmall_0
      simp only [Bool.decide_eq_true]
      have t1 : Int.tmod (i + k) 13 = (i + k) % 13 := Int.tmod_eq_emod_of_nonneg (by omega)
      rw [t1]
      refine ⟨fitsB_two (hk 2 (by omega) (by omega)) (hk 6 (by omega) (by omega)), fun t ht => ⟨fun q => absurd ht q, fun _ => ⟨by omega, by omega, fun _ => ⟨by omega, by omega, fun _ => ⟨by rw [rng64]; omega, by decide, by rw [rng64]; omega, by omega, by omega, fun _ => ⟨by omega, by omega, fun _ => ⟨by omega, by omega, fun _ => ⟨⟨hy, by show (3 : Int) ≤ 60; decide⟩, fun t ht => ⟨fun q => absurd ht q, fun _ => ⟨by omega, by omega, fun _ => ⟨by omega, by omega, fun _ => ⟨⟨hy, by show (2 : Int) ≤ 60; decide⟩, fun t ht => ⟨fun q => absurd ht q, fun _ => ⟨by rw [rng64]; omega, by omega, by show (13 - (k + 1)).toNat < (13 - k).toNat; omega⟩⟩⟩⟩⟩⟩⟩⟩⟩⟩⟩⟩⟩⟩
    exact ⟨by omega, by omega, fun _ => ⟨by decide, by omega, by omega, by omega, fun _ => ⟨by decide, by omega, by rw [rng64]; omega, by omega, by omega, fun _ => ⟨fun _ _ _ _ => core, fun _ _ _ _ => core⟩⟩⟩⟩
  refine ⟨fun i => 0 ≤ i ∧ i ≤ 10, fun i => (10 - i).toNat, by omega, fun i _ hi' _ => ⟨fun hlt => ⟨fun k => 0 ≤ k ∧ k ≤ 10, fun k => (10 - k).toNat, by omega, fun k _ hk' _ => ⟨fun hlt' => ?_, fun _ => ⟨by rw [rng64]; omega, by omega, by show (10 - (i + 1)).toNat < (10 - i).toNat; omega⟩⟩⟩, fun _ => ?_⟩⟩
  · have c1 : V_TSmall_1 rs i (fun k => 0 ≤ k ∧ k ≤ 10) (fun k => (10 - k).toNat) k := by
      unfold V_TSmall_1
      simp only [Bool.decide_eq_true]
      exact ⟨fitsB_two (hk i (by omega) (by omega)) (hk k (by omega) (by omega)), fun t ht => ⟨fun q => absurd ht q, fun _ => ⟨by rw [rng64]; omega, by omega, by show (10 - (k + 1)).toNat < (10 - k).toNat; omega⟩⟩⟩
    have c2 : V_TSmall_2 rs i (fun k => 0 ≤ k ∧ k ≤ 10) (fun k => (10 - k).toNat) k := by
      unfold V_TSmall_2
      simp only [Bool.decide_eq_true]
      exact ⟨fitsB_two (hk i (by omega) (by omega)) (hk k (by omega) (by omega)), fun t ht => ⟨fun q => absurd ht q, fun _ => ⟨by omega, by omega, by omega, by omega, fun _ _ _ _ => c1, fun _ _ _ _ => c1⟩⟩⟩
    exact ⟨by omega, by omega, by omega, by omega, fun _ _ _ _ => c2, fun _ _ _ _ => c2⟩
  refine ⟨fun s n => (0 ≤ n ∧ n ≤ 23) ∧ s.len = n ∧ ∀ k : Int, 0 ≤ k → k < n → (s.sub k 2).len + (s.sub k 4).len ≤ 600, fun _ n => (23 - n).toNat, ⟨by omega, rfl, fun k _ _ => by omega⟩, fun s _ n _ hJ => ?_⟩
  obtain ⟨hn', hs, hk'⟩ := hJ
  refine ⟨fun hlt => ⟨⟨by omega, fun k k0 k1 => hk' k k0 (by omega)⟩, fun t ht => ⟨fun q => absurd ht q, fun _ => ⟨by rw [rng64]; omega, by show (40 : Int) ≠ 0; decide, fun a b _ c d _ h => ?_⟩⟩⟩, fun _ => ⟨trivial, fun t ht => ⟨ht, trivial⟩⟩⟩
  have l1 : (Sl.lit [[.int (3 * n), .bool a, Sl.d b, .bool c, Sl.d d]]).len = 1 := rfl
  rw [l1]
  refine ⟨by omega, by rw [rng64]; omega, ⟨by omega, by rw [len_app, l1]; omega, fun k k0 k1 => ?_⟩, by show (23 - (n + 1)).toNat < (23 - n).toNat; omega⟩
  by_cases e : k < n
  · rw [sub_app_lt k0 (by omega), sub_app_lt k0 (by omega)]
    exact hk' k k0 e
  · have : k = n := by omega
    subst this
    rw [sub_app_ge (by omega), sub_app_ge (by omega), hs, Int.sub_self]
    show b.len + d.len ≤ 600
    have := small8 h; omega

end Go.Sx.N
