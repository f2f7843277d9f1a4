/-
  The conditions of the ledger's functions, fourth part: Same, example, At. Conditions: none.
-/
import Derived.Test.YtlhjljekeobplaaLedP3
namespace Go.Sx.L

theorem len_app (s r : Sl) : (Sl.app s r).len = s.len + r.len := by simp [Sl.app, Sl.len]
theorem len_lit (l : List (List D)) : (Sl.lit l).len = l.length := rfl
theorem int_app_lt {s r : Sl} {i : Int} {j : Nat} (h0 : 0 ≤ i) (h : i < s.len) : (Sl.app s r).int i j = s.int i j := by
  unfold Sl.len at h
  have : i.toNat < s.n := by omega
  simp [Sl.app, Sl.int, this]
theorem int_app_ge {s r : Sl} {i : Int} {j : Nat} (h : s.len ≤ i) : (Sl.app s r).int i j = r.int (i - s.len) j := by
  unfold Sl.len at *
  have h1 : ¬ i.toNat < s.n := by omega
  have h2 : (i - (s.n : Int)).toNat = i.toNat - s.n := by omega
  simp [Sl.app, Sl.int, h1, h2]
theorem int_nilapp {r : Sl} {i : Int} {j : Nat} (h : 0 ≤ i) : (Sl.app (Sl.lit []) r).int i j = r.int i j := by
  rw [int_app_ge (by rw [len_lit]; simpa using h), len_lit]
  simp
theorem len_nilapp (r : Sl) : (Sl.app (Sl.lit []) r).len = r.len := by rw [len_app, len_lit]; simp
theorem int_upd {s : Sl} {i k x : Int} (h0 : 0 ≤ i) (h1 : 0 ≤ k) : (Sl.upd s i 0 [.int x]).int k 0 = if k = i then x else s.int k 0 := by
  unfold Sl.upd Sl.int
  by_cases e : k = i
  · subst e; simp [D.toI]
  · have : ¬ k.toNat = i.toNat := by omega
    simp [this, e]
theorem len_upd (s : Sl) (i : Int) (j : Nat) (c : List D) : (Sl.upd s i j c).len = s.len := rfl
theorem len_nil : Sl.nil.len = 0 := rfl
theorem eqDue_nilapp (d : Sl) : eqDue (Sl.app (Sl.lit []) d) d := ⟨len_nilapp d, fun i h _ => int_nilapp h⟩
theorem eqPosts_nilapp (d : Sl) : eqPosts (Sl.app (Sl.lit []) d) d := ⟨len_nilapp d, fun i h _ => ⟨int_nilapp h, int_nilapp h, int_nilapp h, int_nilapp h⟩⟩
theorem eqDue_nil {d : Sl} (h : d.len ≤ 0) : eqDue Sl.nil d := ⟨by have := len0 d; rw [len_nil]; omega, fun i h0 h1 => by rw [len_nil] at h1; omega⟩
theorem eqPosts_nil {d : Sl} (h : d.len ≤ 0) : eqPosts Sl.nil d := ⟨by have := len0 d; rw [len_nil]; omega, fun i h0 h1 => by rw [len_nil] at h1; omega⟩

theorem example_ok : V_example := by
  intro _
  refine ⟨?_, trivial⟩
  unfold q_example
  decide

theorem Same_ok : V_Same := by
  intro s _ d p t _ e q _
  have no : ¬ sameS s d p t e q → q_Same s d p t e q (decide False) := fun h => by simp [q_Same, h]
  refine ⟨fun h => ⟨no fun hs => h hs.1, trivial⟩, fun h1 hsm _ => ⟨fun h => ⟨no fun hs => h hs.2.1.1, trivial⟩, fun h2 hsd _ => ⟨fun h => ⟨no fun hs => h hs.2.2.1, trivial⟩, fun h3 _ => ?_⟩⟩⟩
  have hsm := small64 hsm
  have h1 : s = t := Classical.not_not.1 h1
  have h2 : d.len = e.len := Classical.not_not.1 h2
  have h3 : p.len = q.len := Classical.not_not.1 h3
  obtain ⟨J, hJ⟩ : ∃ J : Int → Prop, J = fun i => 0 ≤ i ∧ i ≤ d.len ∧ ∀ k : Int, 0 ≤ k → k < i → d.int k 0 = e.int k 0 := ⟨_, rfl⟩
  obtain ⟨m, hm⟩ : ∃ m : Int → Nat, m = fun i => (d.len - i).toNat := ⟨_, rfl⟩
  refine ⟨J, m, by rw [hJ]; exact ⟨Int.le_refl _, len0 d, fun k h1 h2 => absurd h1 (by omega)⟩, fun i hri hj => ?_⟩
  rw [hJ] at hj
  obtain ⟨hi0, hi1, hk⟩ := hj
  refine ⟨fun hlt => ⟨hi0, hlt, fun _ => ⟨hi0, by omega, fun _ => ⟨fun h => ⟨no fun hs => h (hs.2.1.2 i hi0 hlt), trivial⟩, fun h => ⟨?_, ?_, ?_⟩⟩⟩⟩, fun hge hsp => ?_⟩
  · rw [rng64] at *; omega
  · rw [hJ]; refine ⟨by omega, by omega, fun k g1 g2 => ?_⟩
    by_cases ek : k = i
    · rw [ek]; exact Classical.not_not.1 h
    · exact hk k g1 (by omega)
  · rw [hm]; show (d.len - (i + 1)).toNat < (d.len - i).toNat; omega
  have hsp := small64 hsp
  obtain ⟨J2, hJ2⟩ : ∃ J : Int → Prop, J = fun i => 0 ≤ i ∧ i ≤ p.len ∧ ∀ k : Int, 0 ≤ k → k < i → eqAt p k q k := ⟨_, rfl⟩
  obtain ⟨m2, hm2⟩ : ∃ m : Int → Nat, m = fun i => (p.len - i).toNat := ⟨_, rfl⟩
  refine ⟨J2, m2, by rw [hJ2]; exact ⟨Int.le_refl _, len0 p, fun k h1 h2 => absurd h1 (by omega)⟩, fun i' hri' hj => ?_⟩
  rw [hJ2] at hj
  obtain ⟨gi0, gi1, gk⟩ := hj
  refine ⟨fun hlt => ⟨gi0, hlt, fun _ _ _ _ => ⟨gi0, by omega, fun _ _ _ _ => ⟨fun h => ⟨no fun hs => h (hs.2.2.2 i' gi0 hlt), trivial⟩, fun h => ⟨?_, ?_, ?_⟩⟩⟩⟩, fun hge' => ⟨?_, trivial⟩⟩
  · rw [rng64]; omega
  · rw [hJ2]; refine ⟨by omega, by omega, fun k g1 g2 => ?_⟩
    by_cases ek : k = i'
    · rw [ek]; exact Classical.not_not.1 h
    · exact gk k g1 (by omega)
  · rw [hm2]; show (p.len - (i' + 1)).toNat < (p.len - i').toNat; omega
  · simp only [q_Same, decide_true, true_iff]
    exact ⟨h1, ⟨h2, fun k g1 g2 => hk k g1 (by omega)⟩, ⟨h3, fun k g1 g2 => gk k g1 (by omega)⟩⟩


theorem days_sorted {st n : Int} {p : Sl} {d0 : Int} (h : followS st n p d0) : ∀ (k : Nat) (i : Int), 0 ≤ i → i + k < p.len → p.int i 0 ≤ p.int (i + k) 0
  | 0, i, _, _ => by simp
  | k + 1, i, h0, h1 => by
    have h2 := days_sorted h k i h0 (by omega)
    have h3 := (h (i + (k + 1 : Nat)) (by omega) h1).2
    unfold prev at h3
    rw [if_neg (by omega)] at h3
    have e : i + ((k + 1 : Nat) : Int) - 1 = i + k := by omega
    rw [e] at h3
    omega

theorem day_le {st n : Int} {p : Sl} {d0 : Int} (h : followS st n p d0) {i k : Int} (h0 : 0 ≤ i) (h1 : i ≤ k) (h2 : k < p.len) : p.int i 0 ≤ p.int k 0 := by
  have := days_sorted h (k - i).toNat i h0 (by omega)
  have e : i + ((k - i).toNat : Int) = k := by omega
  rwa [e] at this

theorem At_ok : V_At := by
  intro st _ d p day _ _
  refine ⟨trivial, fun b hb => ⟨fun hn => ⟨?_, trivial⟩, fun hn hsm => ?_⟩⟩
  · have : ¬ validS st d p := fun hv => hn (by simpa using hb.2 hv)
    exact ⟨fun _ => ⟨rfl, rfl, rfl, rfl⟩, fun hv => absurd hv this⟩
  have hv : validS st d p := hb.1 (by simpa using hn)
  have hp : p.len ≤ 4000 := hv.2.2.1
  have hd : d.len ≤ 1200 := hv.1.2.2.1
  have hf := hv.2.2.2
  obtain ⟨J, hJ⟩ : ∃ J : Sl → Int → Prop, J = fun s i => 0 ≤ i ∧ i ≤ p.len ∧ s.len ≤ i ∧ (∀ k : Int, 0 ≤ k → k < s.len → eqAt s k p k ∧ p.int k 0 ≤ day) ∧ (s.len < i → day < p.int s.len 0) := ⟨_, rfl⟩
  obtain ⟨m, hm⟩ : ∃ m : Sl → Int → Nat, m = fun _ i => (p.len - i).toNat := ⟨_, rfl⟩
  refine ⟨J, m, by rw [hJ]; exact ⟨Int.le_refl _, len0 p, Int.le_refl _, fun k h0 h1 => by rw [len_nil] at h1; omega, fun h => by rw [len_nil] at h; omega⟩, fun s i hi hj => ?_⟩
  rw [hJ] at hj
  obtain ⟨h0, h1, h2, h3, h4⟩ := hj
  have hs0 := len0 s
  refine ⟨fun hlt => ⟨h0, hlt, fun _ _ _ _ => ⟨fun hle => ?_, fun hgt => ?_⟩⟩, fun hge b8 => ?_⟩
  · have heq : s.len = i := by
      rcases Int.lt_or_eq_of_le h2 with h | h
      · have := h4 h
        have := day_le hf hs0 h2 hlt
        omega
      · exact h
    refine ⟨by rw [len_lit]; simp; omega, by rw [rng64]; omega, ?_, ?_⟩
    · rw [hJ]
      refine ⟨by omega, by omega, by rw [len_app, len_lit]; simp; omega, fun k g0 g1 => ?_, fun g => ?_⟩
      · rw [len_app, len_lit] at g1
        simp only [List.length_cons, List.length_nil] at g1
        by_cases ek : k < s.len
        · have := h3 k g0 ek
          refine ⟨?_, this.2⟩
          unfold eqAt
          rw [int_app_lt g0 ek, int_app_lt g0 ek, int_app_lt g0 ek, int_app_lt g0 ek]
          exact this.1
        · have e : k = i := by omega
          subst e
          refine ⟨?_, hle⟩
          unfold eqAt
          rw [int_app_ge (by omega), int_app_ge (by omega), int_app_ge (by omega), int_app_ge (by omega)]
          have e0 : k - s.len = 0 := by omega
          rw [e0]
          exact ⟨rfl, rfl, rfl, rfl⟩
      · rw [len_app, len_lit] at g
        simp only [List.length_cons, List.length_nil] at g
        omega
    · rw [hm]; show (p.len - (i + 1)).toNat < (p.len - i).toNat; omega
  · refine ⟨by rw [rng64]; omega, ?_, ?_⟩
    · rw [hJ]
      refine ⟨by omega, by omega, by omega, h3, fun _ => ?_⟩
      rcases Int.lt_or_eq_of_le h2 with h | h
      · exact h4 h
      · rw [h]; omega
    · rw [hm]; show (p.len - (i + 1)).toNat < (p.len - i).toNat; omega
  · have hup : upTo p day s := by
      refine ⟨by omega, h3, fun k g0 g1 => ?_⟩
      have := h4 (by omega)
      have := day_le hf hs0 g0 g1
      omega
    refine ⟨fun _ hz => ⟨⟨fun h => absurd hv h, fun _ => ⟨rfl, rfl, eqDue_nil hz, hup⟩⟩, trivial⟩, fun _ => ⟨by rw [len_lit]; simp; omega, ⟨fun h => absurd hv h, fun _ => ⟨rfl, rfl, eqDue_nilapp d, hup⟩⟩, trivial⟩⟩

end Go.Sx.L
