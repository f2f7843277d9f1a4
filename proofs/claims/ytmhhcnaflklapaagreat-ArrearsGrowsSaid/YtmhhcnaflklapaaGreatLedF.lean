/-
  The conditions of the ledger's functions. Conditions: none.
-/
import Derived.Test.YtmhhcnaflklapaaGreatNumVG
set_option linter.unusedVariables false
set_option linter.unusedSimpArgs false
namespace Go.Sx.N.L

theorem has_ok : V_has := by
  intro st _ d p m _ ⟨h1, h2, h3⟩
  have := len0 d
  simp only [rng64, q_has, hasS] at *
  grind

theorem follow_ok : V_follow := by
  intro st _ d p q day _ hp hsm
  have hsm := small64 hsm
  obtain ⟨J, hJ⟩ : ∃ J : Int → Int → Prop, J = fun day' i => 0 ≤ i ∧ i ≤ q.len ∧ day' = prev q day i ∧ ∀ k, 0 ≤ k → k < i → okAt st d.len q day k := ⟨_, rfl⟩
  obtain ⟨m, hm⟩ : ∃ m : Int → Int → Nat, m = fun _ i => (q.len - i).toNat := ⟨_, rfl⟩
  refine ⟨J, m, by rw [hJ]; exact ⟨Int.le_refl _, len0 q, rfl, fun k h1 h2 => absurd h1 (by omega)⟩, ?_⟩
  intro day' _ i hri hj
  have hj' := hj
  rw [hJ] at hj'
  obtain ⟨hi0, hi1, hday, hk⟩ := hj'
  refine ⟨fun hlt => ⟨hi0, hlt, fun r0 r1 r2 r3 => ?_⟩, fun hge => ?_⟩
  · have hF : ¬ okAt st d.len q day i → q_follow st d p q day (decide False) := fun hn => by
      simp only [q_follow, decide_false, Bool.false_eq_true, false_iff]
      exact fun hf => hn (hf i hi0 hlt)
    have hT : okAt st d.len q day i → Rng .i64 (i + 1) ∧ (J (q.int i 0) (i + 1) ∧ m (q.int i 0) (i + 1) < m day' i) := fun hy => by
      rw [hJ, hm]
      refine ⟨?_, ⟨by omega, by omega, ?_, fun k h1 h2 => ?_⟩, ?_⟩
      · rw [rng64] at *; omega
      · unfold prev; rw [if_neg (by omega)]; congr 1; omega
      · by_cases e : k = i
        · rw [e]; exact hy
        · exact hk k h1 (by omega)
      · show (q.len - (i + 1)).toNat < (q.len - i).toNat; omega
    have hs : smallS st d := hp
    obtain ⟨hs1, hs2, hs3⟩ := hp
    unfold okAt fitAt fitsS at hF hT
    rw [← hday] at hF hT
    simp only [p_has, q_has, hasS, decide_eq_true_eq, Bool.decide_eq_true] at hF hT ⊢
    generalize q.int i 0 = a0 at *
    generalize q.int i 1 = a1 at *
    generalize q.int i 2 = a2 at *
    generalize q.int i 3 = a3 at *
    generalize q_follow st d p q day (decide False) = F at *
    generalize J a0 (i + 1) = J1 at *
    generalize (m a0 (i + 1) < m day' i) = M1 at *
    generalize Rng .i64 (i + 1) = R1 at *
    clear hJ hm hk hj r0 r1 r3 hri hday
    repeat' first | apply And.intro | (intro _)
    all_goals grind
  · refine ⟨?_, trivial⟩
    simp only [q_follow, true_iff, decide_true]
    intro k h1 h2
    exact hk k h1 (by omega)

theorem Valid_ok : V_Valid := by
  intro st hst d p _
  have hn : (¬ validS st d p) → q_Valid st d p (decide False) := fun h => by simp [q_Valid, h]
  have hd0 := len0 d
  have hp0 := len0 p
  have hfol : (0 ≤ st ∧ st ≤ 2400 ∧ d.len ≤ 1200 ∧ st + d.len ≤ 2400) → dueOk d → p.len ≤ 4000 → p_follow st d p p 0 ∧ ∀ b5 : Bool, q_follow st d p p 0 (decide (b5 = true)) → q_Valid st d p (decide (b5 = true)) ∧ True := fun h1 h2 h3 => by
    refine ⟨⟨h1.1, h1.2.1, h1.2.2.1⟩, fun b hb => ⟨?_, trivial⟩⟩
    simp only [q_follow, q_Valid, validS, decide_eq_true_eq] at *
    exact ⟨fun h => ⟨h1, h2, h3, hb.1 h⟩, fun h => hb.2 h.2.2.2⟩
  have n1 : st < 0 → q_Valid st d p (decide False) := fun h => hn fun hv => by unfold validS at hv; omega
  have n2 : st > 2400 → q_Valid st d p (decide False) := fun h => hn fun hv => by unfold validS at hv; omega
  have n3 : d.len > 1200 → q_Valid st d p (decide False) := fun h => hn fun hv => by unfold validS at hv; omega
  have n4 : st + d.len > 2400 → q_Valid st d p (decide False) := fun h => hn fun hv => by unfold validS at hv; omega
  have n5 : ¬ p.len ≤ 4000 → q_Valid st d p (decide False) := fun h => hn fun hv => by unfold validS at hv; omega
  have n6 : ∀ i, 0 ≤ i → i < d.len → ¬ (0 ≤ d.int i 0 ∧ d.int i 0 ≤ 1099511627776) → q_Valid st d p (decide False) := fun i h1 h2 h3 => hn fun hv => h3 (hv.2.1 i h1 h2)
  refine ⟨fun h => ⟨n1 h, trivial⟩, fun h1 => ⟨fun h => ⟨n2 h, trivial⟩, fun h2 _ => ⟨fun h => ⟨n3 h, trivial⟩, fun h3 _ => ⟨?_, fun h => ⟨n4 h, trivial⟩, fun h4 hsm => ?_⟩⟩⟩⟩
  · rw [rng64] at *; omega
  have hbig : 0 ≤ st ∧ st ≤ 2400 ∧ d.len ≤ 1200 ∧ st + d.len ≤ 2400 := by omega
  obtain ⟨J, hJ⟩ : ∃ J : Int → Prop, J = fun i => 0 ≤ i ∧ i ≤ d.len ∧ ∀ k : Int, 0 ≤ k → k < i → 0 ≤ d.int k 0 ∧ d.int k 0 ≤ 1099511627776 := ⟨_, rfl⟩
  obtain ⟨m, hm⟩ : ∃ m : Int → Nat, m = fun i => (d.len - i).toNat := ⟨_, rfl⟩
  refine ⟨J, m, by rw [hJ]; exact ⟨Int.le_refl _, hd0, fun k h1 h2 => absurd h1 (by omega)⟩, fun i hri hj => ?_⟩
  have hj' := hj
  rw [hJ] at hj'
  obtain ⟨hi0, hi1, hk⟩ := hj'
  have step : i < d.len → 0 ≤ d.int i 0 → d.int i 0 ≤ 1099511627776 → Rng .i64 (i + 1) ∧ J (i + 1) ∧ m (i + 1) < m i := fun g1 g2 g3 => by
    rw [hJ, hm, rng64]
    refine ⟨by omega, ⟨by omega, by omega, fun k h1 h2 => ?_⟩, ?_⟩
    · by_cases e : k = i
      · rw [e]; exact ⟨g2, g3⟩
      · exact hk k h1 (by omega)
    · show (d.len - (i + 1)).toNat < (d.len - i).toNat; omega
  have hend : ¬ i < d.len → dueOk d := fun h k h1 h2 => hk k h1 (by omega)
  have n6 := n6 i hi0
  exact ⟨fun hlt => ⟨hi0, hlt, fun hr => ⟨fun hneg => ⟨fun _ => ⟨n6 hlt (by omega), trivial⟩, fun hc => absurd hi0 hc⟩, fun hnn => ⟨fun hbg => ⟨fun _ => ⟨n6 hlt (by omega), trivial⟩, fun hc => absurd hi0 hc⟩, fun hnb => step hlt (by omega) (by omega)⟩⟩⟩,
    fun hge => ⟨fun h => absurd h (by decide), fun _ _ => ⟨fun h => hfol hbig (hend hge) h, fun h => ⟨n5 h, trivial⟩⟩⟩⟩

theorem sumTo_succ (f : Int → Int) {i : Int} (h : 0 ≤ i) : sumTo f (i + 1).toNat = sumTo f i.toNat + f i := by
  have : (i + 1).toNat = i.toNat + 1 := by omega
  rw [this]
  simp only [sumTo]
  rw [Int.toNat_of_nonneg h]

theorem sumTo_bound {f : Int → Int} : ∀ {n : Nat}, (∀ i : Int, 0 ≤ i → i < n → -1099511627776 ≤ f i ∧ f i ≤ 1099511627776) → -(1099511627776 * (n : Int)) ≤ sumTo f n ∧ sumTo f n ≤ 1099511627776 * (n : Int)
  | 0, _ => by simp [sumTo]
  | n + 1, h => by
    have h1 := sumTo_bound (f := f) (n := n) (fun i h0 h1 => h i h0 (by omega))
    have h2 := h n (by omega) (by omega)
    simp only [sumTo]
    omega

theorem amt_bound {st n : Int} {p : Sl} {d0 i : Int} (h : okAt st n p d0 i) : -1099511627776 ≤ p.int i 3 ∧ p.int i 3 ≤ 1099511627776 := by
  have h := h.1.2
  omega

theorem prin_bound {st n : Int} {p : Sl} {d0 i : Int} (h : okAt st n p d0 i) : -1099511627776 ≤ prin p i ∧ prin p i ≤ 1099511627776 := by
  have h := amt_bound h
  unfold prin
  split <;> omega

theorem len_lit (l : List (List D)) : (Sl.lit l).len = l.length := rfl

theorem rsL : ∀ x : Int, -9223372036854775808 ≤ x ∧ x ≤ 9223372036854775807 → Rng .i64 x := fun _ h => h

theorem int_part0 {s : Sl} : (Sl.part s 0 0).len = 0 := rfl

end Go.Sx.N.L

namespace Go.Sx.N
theorem has_ok : V_has := L.has_ok
theorem follow_ok : V_follow := L.follow_ok
theorem Valid_ok : V_Valid := L.Valid_ok
end Go.Sx.N
