/-
  The conditions of the ledger's functions. Conditions: none.
-/
import Derived.Test.YtdhjdigfoohofaaLedVA
set_option linter.unusedVariables false
set_option linter.unusedSimpArgs false
namespace Go.Sx.N.L

theorem rng8 {x : Int} : Rng .u8 x ↔ 0 ≤ x ∧ x ≤ 255 := Iff.rfl

theorem rng32 {x : Int} : Rng .u32 x ↔ 0 ≤ x ∧ x ≤ 4294967295 := Iff.rfl

theorem has_ok : V_has := by
  intro st _ d p m _ ⟨h1, h2, h3⟩
  have := len0 d
  simp only [rng64, q_has, hasS] at *
  grind

theorem follow_ok : V_follow := by
  intro st _ d p q day _ hp hsm
  have hsm := small64 hsm
  obtain ⟨J, hJ⟩ : ∃ J : Int → Int → Prop, J = fun day' i => 0 ≤ i ∧ i ≤ q.len ∧ day' = prev q day i ∧ ∀ k, 0 ≤ k → k < i → okAt st d.len q day k := ⟨_, rfl⟩
  obtain ⟨m, hm⟩ : ∃ m : Int → Int → Nat, m = fun _ i => (q.len - i).toNat := ⟨_, rfl⟩
  refine ⟨J, m, by rw [hJ]; exact ⟨Int.le_refl _, len0 q, rfl, fun k h1 h2 => absurd h1 (by omega)⟩, ?_⟩
  intro day' _ i hri hj
  have hj' := hj
  rw [hJ] at hj'
  obtain ⟨hi0, hi1, hday, hk⟩ := hj'
  refine ⟨fun hlt => ⟨hi0, hlt, fun r0 r1 r2 r3 => ?_⟩, fun hge => ?_⟩
  · have hF : ¬ okAt st d.len q day i → q_follow st d p q day (decide False) := fun hn => by
      simp only [q_follow, decide_false, Bool.false_eq_true, false_iff]
      exact fun hf => hn (hf i hi0 hlt)
    have hT : okAt st d.len q day i → Rng .i64 (i + 1) ∧ (J (q.int i 0) (i + 1) ∧ m (q.int i 0) (i + 1) < m day' i) := fun hy => by
      rw [hJ, hm]
      refine ⟨?_, ⟨by omega, by omega, ?_, fun k h1 h2 => ?_⟩, ?_⟩
      · rw [rng64] at *; omega
      · unfold prev; rw [if_neg (by omega)]; congr 1; omega
      · by_cases e : k = i
        · rw [e]; exact hy
        · exact hk k h1 (by omega)
      · show (q.len - (i + 1)).toNat < (q.len - i).toNat; omega
    have hs : smallS st d := hp
    obtain ⟨hs1, hs2, hs3⟩ := hp
    unfold okAt fitAt fitsS at hF hT
    rw [← hday] at hF hT
    simp only [p_has, q_has, hasS, decide_eq_true_eq, Bool.decide_eq_true] at hF hT ⊢
    generalize q.int i 0 = a0 at *
    generalize q.int i 1 = a1 at *
    generalize q.int i 2 = a2 at *
    generalize q.int i 3 = a3 at *
    generalize q_follow st d p q day (decide False) = F at *
    generalize J a0 (i + 1) = J1 at *
    generalize (m a0 (i + 1) < m day' i) = M1 at *
    generalize Rng .i64 (i + 1) = R1 at *
    clear hJ hm hk hj r0 r1 r3 hri hday
    repeat' first | apply And.intro | (intro _)
    all_goals grind
  · refine ⟨?_, trivial⟩
    simp only [q_follow, true_iff, decide_true]
    intro k h1 h2
    exact hk k h1 (by omega)

theorem Valid_ok : V_Valid := by
  intro st hst d p _
  have hn : (¬ validS st d p) → q_Valid st d p (decide False) := fun h => by simp [q_Valid, h]
  have hd0 := len0 d
  have hp0 := len0 p
  have hfol : (0 ≤ st ∧ st ≤ 2400 ∧ d.len ≤ 1200 ∧ st + d.len ≤ 2400) → dueOk d → p.len ≤ 4000 → p_follow st d p p 0 ∧ ∀ b5 : Bool, q_follow st d p p 0 (decide (b5 = true)) → q_Valid st d p (decide (b5 = true)) ∧ True := fun h1 h2 h3 => by
    refine ⟨⟨h1.1, h1.2.1, h1.2.2.1⟩, fun b hb => ⟨?_, trivial⟩⟩
    simp only [q_follow, q_Valid, validS, decide_eq_true_eq] at *
    exact ⟨fun h => ⟨h1, h2, h3, hb.1 h⟩, fun h => hb.2 h.2.2.2⟩
  have n1 : st < 0 → q_Valid st d p (decide False) := fun h => hn fun hv => by unfold validS at hv; omega
  have n2 : st > 2400 → q_Valid st d p (decide False) := fun h => hn fun hv => by unfold validS at hv; omega
  have n3 : d.len > 1200 → q_Valid st d p (decide False) := fun h => hn fun hv => by unfold validS at hv; omega
  have n4 : st + d.len > 2400 → q_Valid st d p (decide False) := fun h => hn fun hv => by unfold validS at hv; omega
  have n5 : ¬ p.len ≤ 4000 → q_Valid st d p (decide False) := fun h => hn fun hv => by unfold validS at hv; omega
  have n6 : ∀ i, 0 ≤ i → i < d.len → ¬ (0 ≤ d.int i 0 ∧ d.int i 0 ≤ 1099511627776) → q_Valid st d p (decide False) := fun i h1 h2 h3 => hn fun hv => h3 (hv.2.1 i h1 h2)
  refine ⟨fun h => ⟨n1 h, trivial⟩, fun h1 => ⟨fun h => ⟨n2 h, trivial⟩, fun h2 _ => ⟨fun h => ⟨n3 h, trivial⟩, fun h3 _ => ⟨?_, fun h => ⟨n4 h, trivial⟩, fun h4 hsm => ?_⟩⟩⟩⟩
  · rw [rng64] at *; omega
  have hbig : 0 ≤ st ∧ st ≤ 2400 ∧ d.len ≤ 1200 ∧ st + d.len ≤ 2400 := by omega
  obtain ⟨J, hJ⟩ : ∃ J : Int → Prop, J = fun i => 0 ≤ i ∧ i ≤ d.len ∧ ∀ k : Int, 0 ≤ k → k < i → 0 ≤ d.int k 0 ∧ d.int k 0 ≤ 1099511627776 := ⟨_, rfl⟩
  obtain ⟨m, hm⟩ : ∃ m : Int → Nat, m = fun i => (d.len - i).toNat := ⟨_, rfl⟩
  refine ⟨J, m, by rw [hJ]; exact ⟨Int.le_refl _, hd0, fun k h1 h2 => absurd h1 (by omega)⟩, fun i hri hj => ?_⟩
  have hj' := hj
  rw [hJ] at hj'
  obtain ⟨hi0, hi1, hk⟩ := hj'
  have step : i < d.len → 0 ≤ d.int i 0 → d.int i 0 ≤ 1099511627776 → Rng .i64 (i + 1) ∧ J (i + 1) ∧ m (i + 1) < m i := fun g1 g2 g3 => by
    rw [hJ, hm, rng64]
    refine ⟨by omega, ⟨by omega, by omega, fun k h1 h2 => ?_⟩, ?_⟩
    · by_cases e : k = i
      · rw [e]; exact ⟨g2, g3⟩
      · exact hk k h1 (by omega)
    · show (d.len - (i + 1)).toNat < (d.len - i).toNat; omega
  have hend : ¬ i < d.len → dueOk d := fun h k h1 h2 => hk k h1 (by omega)
  have n6 := n6 i hi0
  exact ⟨fun hlt => ⟨hi0, hlt, fun hr => ⟨fun hneg => ⟨fun _ => ⟨n6 hlt (by omega), trivial⟩, fun hc => absurd hi0 hc⟩, fun hnn => ⟨fun hbg => ⟨fun _ => ⟨n6 hlt (by omega), trivial⟩, fun hc => absurd hi0 hc⟩, fun hnb => step hlt (by omega) (by omega)⟩⟩⟩,
    fun hge => ⟨fun h => absurd h (by decide), fun _ _ => ⟨fun h => hfol hbig (hend hge) h, fun h => ⟨n5 h, trivial⟩⟩⟩⟩


theorem sumTo_succ (f : Int → Int) {i : Int} (h : 0 ≤ i) : sumTo f (i + 1).toNat = sumTo f i.toNat + f i := by
  have : (i + 1).toNat = i.toNat + 1 := by omega
  rw [this]
  simp only [sumTo]
  rw [Int.toNat_of_nonneg h]

theorem sumTo_bound {f : Int → Int} : ∀ {n : Nat}, (∀ i : Int, 0 ≤ i → i < n → -1099511627776 ≤ f i ∧ f i ≤ 1099511627776) → -(1099511627776 * (n : Int)) ≤ sumTo f n ∧ sumTo f n ≤ 1099511627776 * (n : Int)
  | 0, _ => by simp [sumTo]
  | n + 1, h => by
    have h1 := sumTo_bound (f := f) (n := n) (fun i h0 h1 => h i h0 (by omega))
    have h2 := h n (by omega) (by omega)
    simp only [sumTo]
    omega

theorem amt_bound {st n : Int} {p : Sl} {d0 i : Int} (h : okAt st n p d0 i) : -1099511627776 ≤ p.int i 3 ∧ p.int i 3 ≤ 1099511627776 := by
  have h := h.1.2
  omega

theorem prin_bound {st n : Int} {p : Sl} {d0 i : Int} (h : okAt st n p d0 i) : -1099511627776 ≤ prin p i ∧ prin p i ≤ 1099511627776 := by
  have h := amt_bound h
  unfold prin
  split <;> omega

/-- A loop that adds up. -/
theorem sum_loop {f : Int → Int} {n : Nat} (hn : (n : Int) ≤ 4000) (hf : ∀ i : Int, 0 ≤ i → i < n → -1099511627776 ≤ f i ∧ f i ≤ 1099511627776) {x i : Int} (h0 : 0 ≤ i) (h1 : i < n) (hx : x = sumTo f i.toNat) :
    Rng .i64 (x + f i) ∧ Rng .i64 (i + 1) ∧ x + f i = sumTo f (i + 1).toNat := by
  have e := sumTo_succ f h0
  have hb := sumTo_bound (f := f) (n := (i + 1).toNat) (fun k g0 g1 => hf k g0 (by omega))
  rw [e, ← hx] at hb
  refine ⟨?_, ?_, by rw [e, hx]⟩
  · rw [rng64]; omega
  · rw [rng64]; omega

theorem posted_ok : V_posted := by
  intro st _ d p mo _ hv hsm
  obtain ⟨hb, hd, hp, hf⟩ : validS st d p := hv
  obtain ⟨f, hff⟩ : ∃ f : Int → Int, f = fun i => if p.int i 1 = mo then prin p i else 0 := ⟨_, rfl⟩
  have hbound : ∀ i : Int, 0 ≤ i → i < (p.n : Int) → -1099511627776 ≤ f i ∧ f i ≤ 1099511627776 := fun i h0 h1 => by
    have := prin_bound (hf i h0 h1)
    rw [hff]
    show -1099511627776 ≤ (if p.int i 1 = mo then prin p i else 0) ∧ (if p.int i 1 = mo then prin p i else 0) ≤ 1099511627776
    split <;> omega
  obtain ⟨J, hJ⟩ : ∃ J : Int → Int → Prop, J = fun x i => 0 ≤ i ∧ i ≤ p.len ∧ x = sumTo f i.toNat := ⟨_, rfl⟩
  obtain ⟨m, hm⟩ : ∃ m : Int → Int → Nat, m = fun _ i => (p.len - i).toNat := ⟨_, rfl⟩
  refine ⟨J, m, by rw [hJ]; exact ⟨Int.le_refl _, len0 p, rfl⟩, fun x hx i hi hj => ?_⟩
  rw [hJ] at hj
  obtain ⟨h0, h1, hxs⟩ := hj
  refine ⟨fun hlt => ⟨h0, hlt, fun _ _ _ _ => ?_⟩, fun hge => ?_⟩
  · obtain ⟨s1, s2, s3⟩ := sum_loop hp hbound h0 hlt hxs
    have hfi : f i = if p.int i 1 = mo then (if p.int i 2 = 3 then 0 else p.int i 3) else 0 := by rw [hff]; rfl
    have fin : ∀ y, f i = y → Rng .i64 (x + y) ∧ Rng .i64 (i + 1) ∧ J (x + y) (i + 1) ∧ m (x + y) (i + 1) < m x i := fun y hy => by
      rw [← hy]
      refine ⟨s1, s2, ?_, ?_⟩
      · rw [hJ]; exact ⟨by omega, by omega, s3⟩
      · rw [hm]; show (p.len - (i + 1)).toNat < (p.len - i).toNat; omega
    refine ⟨fun h => fin 0 (by rw [hfi, if_neg h]), fun h => ⟨fun g => fin 0 ?_, fun g => fin _ ?_⟩⟩
    · rw [hfi, if_pos (Classical.not_not.1 h), if_pos g]
    · rw [hfi, if_pos (Classical.not_not.1 h), if_neg g]
  · refine ⟨?_, trivial⟩
    have : i.toNat = p.n := by unfold Sl.len at *; omega
    rw [this] at hxs
    rw [hff] at hxs
    exact hxs

theorem postedS_bound {st : Int} {d p : Sl} (hv : validS st d p) (mo : Int) : -(1099511627776 * 4000) ≤ postedS p mo ∧ postedS p mo ≤ 1099511627776 * 4000 := by
  have hp : (p.n : Int) ≤ 4000 := hv.2.2.1
  have := sumTo_bound (f := fun i => if p.int i 1 = mo then prin p i else 0) (n := p.n) (fun i h0 h1 => by
    have := prin_bound (hv.2.2.2 i h0 h1)
    show -1099511627776 ≤ (if p.int i 1 = mo then prin p i else 0) ∧ (if p.int i 1 = mo then prin p i else 0) ≤ 1099511627776
    split <;> omega)
  unfold postedS
  omega

theorem Open_ok : V_Open := by
  intro st _ d p mo _ _
  refine ⟨trivial, fun b hb => ⟨fun hn => ⟨?_, trivial⟩, fun hn => ?_⟩⟩
  · have : ¬ validS st d p := fun hv => hn (by simpa using hb.2 hv)
    exact ⟨fun _ => ⟨rfl, rfl⟩, fun hv => absurd hv this⟩
  · have hv : validS st d p := hb.1 (by simpa using hn)
    refine ⟨⟨hv.1.1, hv.1.2.1, hv.1.2.2.1⟩, fun c hc => ⟨fun hn => ⟨?_, trivial⟩, fun hn => ?_⟩⟩
    · have hm : ¬ hasS st d mo := fun h => hn (by simpa using hc.2 h)
      exact ⟨fun h => absurd hv h, fun _ => ⟨fun _ => ⟨rfl, rfl⟩, fun h => absurd h hm⟩⟩
    · have hm : hasS st d mo := hc.1 (by simpa using hn)
      obtain ⟨hm1, hm2⟩ := hm
      have hb := hv.1
      have hdu := hv.2.1 (mo - st) (by omega) (by omega)
      refine ⟨by rw [rng64]; omega, by omega, by omega, fun _ => ⟨hv, fun x _ hx => ⟨?_, ?_, trivial⟩⟩⟩
      · have hx : x = postedS p mo := hx
        have := postedS_bound hv mo
        rw [rng64]; omega
      · have hx : x = postedS p mo := hx
        exact ⟨fun h => absurd hv h, fun _ => ⟨fun h => absurd ⟨hm1, hm2⟩ h, fun _ => ⟨by rw [hx], rfl⟩⟩⟩



theorem len_lit (l : List (List D)) : (Sl.lit l).len = l.length := rfl

theorem int_nilapp {r : Sl} {i : Int} {j : Nat} (h : 0 ≤ i) : (Sl.app (Sl.lit []) r).int i j = r.int i j := by
  rw [int_app_ge (by rw [len_lit]; simpa using h), len_lit]
  simp

theorem len_nilapp (r : Sl) : (Sl.app (Sl.lit []) r).len = r.len := by rw [len_app, len_lit]; simp

theorem eqDue_nilapp (d : Sl) : eqDue (Sl.app (Sl.lit []) d) d := ⟨len_nilapp d, fun i h _ => int_nilapp h⟩

theorem eqPosts_nilapp (d : Sl) : eqPosts (Sl.app (Sl.lit []) d) d := ⟨len_nilapp d, fun i h _ => ⟨int_nilapp h, int_nilapp h, int_nilapp h, int_nilapp h⟩⟩

theorem eqDue_nil {d : Sl} (h : d.len ≤ 0) : eqDue Sl.nil d := ⟨by have := len0 d; rw [len_nil]; omega, fun i h0 h1 => by rw [len_nil] at h1; omega⟩

theorem eqPosts_nil {d : Sl} (h : d.len ≤ 0) : eqPosts Sl.nil d := ⟨by have := len0 d; rw [len_nil]; omega, fun i h0 h1 => by rw [len_nil] at h1; omega⟩

theorem Same_ok : V_Same := by
  intro s _ d p t _ e q _
  have no : ¬ sameS s d p t e q → q_Same s d p t e q (decide False) := fun h => by simp [q_Same, h]
  refine ⟨fun h => ⟨no fun hs => h hs.1, trivial⟩, fun h1 hsm _ => ⟨fun h => ⟨no fun hs => h hs.2.1.1, trivial⟩, fun h2 hsd _ => ⟨fun h => ⟨no fun hs => h hs.2.2.1, trivial⟩, fun h3 _ => ?_⟩⟩⟩
  have hsm := small64 hsm
  have h1 : s = t := Classical.not_not.1 h1
  have h2 : d.len = e.len := Classical.not_not.1 h2
  have h3 : p.len = q.len := Classical.not_not.1 h3
  obtain ⟨J, hJ⟩ : ∃ J : Int → Prop, J = fun i => 0 ≤ i ∧ i ≤ d.len ∧ ∀ k : Int, 0 ≤ k → k < i → d.int k 0 = e.int k 0 := ⟨_, rfl⟩
  obtain ⟨m, hm⟩ : ∃ m : Int → Nat, m = fun i => (d.len - i).toNat := ⟨_, rfl⟩
  refine ⟨J, m, by rw [hJ]; exact ⟨Int.le_refl _, len0 d, fun k h1 h2 => absurd h1 (by omega)⟩, fun i hri hj => ?_⟩
  rw [hJ] at hj
  obtain ⟨hi0, hi1, hk⟩ := hj
  refine ⟨fun hlt => ⟨hi0, hlt, fun _ => ⟨hi0, by omega, fun _ => ⟨fun h => ⟨no fun hs => h (hs.2.1.2 i hi0 hlt), trivial⟩, fun h => ⟨?_, ?_, ?_⟩⟩⟩⟩, fun hge hsp => ?_⟩
  · rw [rng64] at *; omega
  · rw [hJ]; refine ⟨by omega, by omega, fun k g1 g2 => ?_⟩
    by_cases ek : k = i
    · rw [ek]; exact Classical.not_not.1 h
    · exact hk k g1 (by omega)
  · rw [hm]; show (d.len - (i + 1)).toNat < (d.len - i).toNat; omega
  have hsp := small64 hsp
  obtain ⟨J2, hJ2⟩ : ∃ J : Int → Prop, J = fun i => 0 ≤ i ∧ i ≤ p.len ∧ ∀ k : Int, 0 ≤ k → k < i → eqAt p k q k := ⟨_, rfl⟩
  obtain ⟨m2, hm2⟩ : ∃ m : Int → Nat, m = fun i => (p.len - i).toNat := ⟨_, rfl⟩
  refine ⟨J2, m2, by rw [hJ2]; exact ⟨Int.le_refl _, len0 p, fun k h1 h2 => absurd h1 (by omega)⟩, fun i' hri' hj => ?_⟩
  rw [hJ2] at hj
  obtain ⟨gi0, gi1, gk⟩ := hj
  refine ⟨fun hlt => ⟨gi0, hlt, fun _ _ _ _ => ⟨gi0, by omega, fun _ _ _ _ => ⟨fun h => ⟨no fun hs => h (hs.2.2.2 i' gi0 hlt), trivial⟩, fun h => ⟨?_, ?_, ?_⟩⟩⟩⟩, fun hge' => ⟨?_, trivial⟩⟩
  · rw [rng64]; omega
  · rw [hJ2]; refine ⟨by omega, by omega, fun k g1 g2 => ?_⟩
    by_cases ek : k = i'
    · rw [ek]; exact Classical.not_not.1 h
    · exact gk k g1 (by omega)
  · rw [hm2]; show (p.len - (i' + 1)).toNat < (p.len - i').toNat; omega
  · simp only [q_Same, decide_true, true_iff]
    exact ⟨h1, ⟨h2, fun k g1 g2 => hk k g1 (by omega)⟩, ⟨h3, fun k g1 g2 => gk k g1 (by omega)⟩⟩

theorem days_sorted {st n : Int} {p : Sl} {d0 : Int} (h : followS st n p d0) : ∀ (k : Nat) (i : Int), 0 ≤ i → i + k < p.len → p.int i 0 ≤ p.int (i + k) 0
  | 0, i, _, _ => by simp
  | k + 1, i, h0, h1 => by
    have h2 := days_sorted h k i h0 (by omega)
    have h3 := (h (i + (k + 1 : Nat)) (by omega) h1).2
    unfold prev at h3
    rw [if_neg (by omega)] at h3
    have e : i + ((k + 1 : Nat) : Int) - 1 = i + k := by omega
    rw [e] at h3
    omega

theorem day_le {st n : Int} {p : Sl} {d0 : Int} (h : followS st n p d0) {i k : Int} (h0 : 0 ≤ i) (h1 : i ≤ k) (h2 : k < p.len) : p.int i 0 ≤ p.int k 0 := by
  have := days_sorted h (k - i).toNat i h0 (by omega)
  have e : i + ((k - i).toNat : Int) = k := by omega
  rwa [e] at this


theorem rsL : ∀ x : Int, -9223372036854775808 ≤ x ∧ x ≤ 9223372036854775807 → Rng .i64 x := fun _ h => h

theorem rHas_ok : V_rHas := by
  intro st hst d p m hm hp
  have hd0 := len0 d
  obtain ⟨h0, h1, h2⟩ : smallS st d := hp
  have rs := rsL
  refine ⟨fun i => 0 ≤ i ∧ i ≤ d.len ∧ ∀ k : Int, 0 ≤ k → k < i → st + k ≠ m, fun i => (d.len - i).toNat, ⟨Int.le_refl _, hd0, fun k g1 g2 => by omega⟩, fun i hri ⟨g0, g1, g2⟩ hsm => ⟨fun hlt => ⟨rs _ (by omega), fun e => ⟨?_, trivial⟩, fun e => ⟨rs _ (by omega), ⟨by omega, by omega, fun k k0 k1 => ?_⟩, ?_⟩⟩, fun hge => ⟨?_, trivial⟩⟩⟩
  · simp only [q_rHas, hasS, decide_true, true_iff]; omega
  · by_cases ek : k = i
    · rw [ek]; exact e
    · exact g2 k k0 (by omega)
  · show (d.len - (i + 1)).toNat < (d.len - i).toNat; omega
  · simp only [q_rHas, hasS, decide_false, Bool.false_eq_true, false_iff]
    intro hh
    exact g2 (m - st) (by omega) (by omega) (by omega)

theorem rRight_ok : V_rRight := by
  intro st hst d p day hday mo hmo kind hk amt hamt hp
  rw [rng8] at hk
  simp only [p_rRight, p_rHas, q_rHas, q_rRight, hasS, fitsS, decide_eq_true_eq, decide_true, decide_false] at *
  have hx : ∀ X : Prop, X → (True ↔ X) := fun X h => ⟨fun _ => h, fun _ => trivial⟩
  repeat' first | exact hp | apply And.intro | (intro _)
  all_goals first | trivial | grind

theorem rPosts_ok : V_rPosts := by
  intro st hst d p q hp
  have hq0 := len0 q
  have rs := rsL
  have hs : smallS st d := hp
  refine ⟨fun i => 0 ≤ i ∧ i ≤ q.len ∧ ∀ k : Int, 0 ≤ k → k < i → okAt st d.len q 0 k, fun i => (q.len - i).toNat, ⟨Int.le_refl _, hq0, fun k g1 g2 => by omega⟩, fun i hri ⟨g0, g1, g2⟩ hsm => ⟨fun hlt => ⟨g0, hlt, fun r0 r1 r2 r3 => ⟨hs, fun b hb => ?_⟩⟩, fun hge => ⟨?_, trivial⟩⟩⟩
  · have hsm' := small64 hsm
    have bad : ¬ okAt st d.len q 0 i → q_rPosts st d p q (decide False) := fun hn => by
      simp only [q_rPosts, decide_false, Bool.false_eq_true, false_iff]
      exact fun h => hn (h i g0 hlt)
    have good : okAt st d.len q 0 i → Rng .i64 (i + 1) ∧ (0 ≤ i + 1 ∧ i + 1 ≤ q.len ∧ ∀ k : Int, 0 ≤ k → k < i + 1 → okAt st d.len q 0 k) ∧ (q.len - (i + 1)).toNat < (q.len - i).toNat := fun h =>
      ⟨rs _ (by omega), ⟨by omega, by omega, fun k k0 k1 => by
        by_cases ek : k = i
        · rw [ek]; exact h
        · exact g2 k k0 (by omega)⟩, by omega⟩
    simp only [q_rRight, decide_eq_true_eq] at hb
    have hfit : b = true ↔ fitAt st d.len q i := hb
    refine ⟨fun hn => ⟨bad fun h => hn (hfit.2 h.1), trivial⟩, fun hn => ?_⟩
    have hf : fitAt st d.len q i := hfit.1 (by simpa using hn)
    refine ⟨fun hpos => ⟨rs _ (by omega), by omega, by omega, fun r4 => ⟨g0, hlt, fun r5 => ⟨fun hgt => ⟨bad fun h => ?_, trivial⟩, fun hgt => good ⟨hf, ?_⟩⟩⟩⟩, fun hpos => good ⟨hf, ?_⟩⟩
    · have := h.2
      unfold prev at this
      rw [if_neg (by omega)] at this
      omega
    · unfold prev
      rw [if_neg (by omega)]; omega
    · unfold prev
      rw [if_pos (by omega)]
      exact hf.1.1
  · simp only [q_rPosts, decide_true, true_iff]
    exact fun k k0 k1 => g2 k k0 (by omega)

theorem rValid_ok : V_rValid := by
  intro st hst d p _
  have rs := rsL
  have hd0 := len0 d
  have hp0 := len0 p
  have bad : ¬ validS st d p → q_rValid st d p (decide False) ∧ True := fun h => ⟨by simp [q_rValid, h], trivial⟩
  refine ⟨fun h => bad fun hv => ?_, fun h1 => ⟨fun h => bad fun hv => ?_, fun h2 hs1 => ⟨fun h => bad fun hv => ?_, fun h3 hs2 => ⟨rs _ (by omega), fun h => bad fun hv => ?_, fun h4 hs3 => ⟨fun h => bad fun hv => ?_, fun h5 => ?_⟩⟩⟩⟩⟩
  · have := hv.1; omega
  · have := hv.1; omega
  · have := hv.1; omega
  · have := hv.1; omega
  · have := hv.2.2.1; omega
  refine ⟨fun i => 0 ≤ i ∧ i ≤ d.len ∧ ∀ k : Int, 0 ≤ k → k < i → 0 ≤ d.int k 0 ∧ d.int k 0 ≤ 1099511627776, fun i => (d.len - i).toNat, ⟨Int.le_refl _, hd0, fun k g1 g2 => by omega⟩, fun i hri ⟨g0, g1, g2⟩ hsm => ⟨fun hlt => ⟨g0, hlt, fun r0 => ⟨fun h => bad fun hv => ?_, fun h6 => ⟨g0, hlt, fun r1 => ⟨fun h => bad fun hv => ?_, fun h7 => ⟨rs _ (by omega), ⟨by omega, by omega, fun k k0 k1 => ?_⟩, ?_⟩⟩⟩⟩⟩, fun hge => ⟨⟨by omega, by omega, by omega⟩, fun b hb => ⟨?_, trivial⟩⟩⟩⟩
  · have := hv.2.1 i g0 hlt; omega
  · have := hv.2.1 i g0 hlt; omega
  · by_cases ek : k = i
    · rw [ek]; omega
    · exact g2 k k0 (by omega)
  · show (d.len - (i + 1)).toNat < (d.len - i).toNat; omega
  · simp only [q_rPosts, q_rValid, decide_eq_true_eq] at *
    rw [hb]
    exact ⟨fun h => ⟨⟨by omega, by omega, by omega, by omega⟩, fun k k0 k1 => g2 k k0 (by omega), by omega, h⟩, fun h => h.2.2.2⟩

/-- A loop that sums. -/
theorem rsum {f : Int → Int} {p : Sl} (hn : p.len ≤ 4000) (hf : ∀ i : Int, 0 ≤ i → i < p.len → -1099511627776 ≤ f i ∧ f i ≤ 1099511627776) {x i y : Int} (h0 : 0 ≤ i) (h1 : i < p.len) (hx : x = sumTo f i.toNat) (hy : f i = y) :
    Rng .i64 (x + y) ∧ (0 ≤ i + 1 ∧ i + 1 ≤ p.len ∧ x + y = sumTo f (i + 1).toNat) ∧ (p.len - (i + 1)).toNat < (p.len - i).toNat ∧ Rng .i64 (i + 1) := by
  obtain ⟨s1, s2, s3⟩ := sum_loop (n := p.n) hn hf h0 h1 hx
  rw [hy] at s1 s3
  exact ⟨s1, ⟨by omega, by omega, s3⟩, by omega, s2⟩



theorem int_part0 {s : Sl} : (Sl.part s 0 0).len = 0 := rfl

theorem Concat_ok : V_Concat := by
  intro s _ ⟨h2, ha, hb⟩ _
  have rs := rsL
  obtain ⟨a, hA⟩ : ∃ a, a = s.sub 0 0 := ⟨_, rfl⟩
  obtain ⟨b, hB⟩ : ∃ b, b = s.sub 1 0 := ⟨_, rfl⟩
  rw [← hA] at ha
  rw [← hB] at hb
  have ha0 := len0 a
  have hb0 := len0 b
  have two : ∀ i : Int, 0 ≤ i → i < s.len → (i = 0 ∧ s.sub i 0 = a) ∨ (i = 1 ∧ s.sub i 0 = b) := fun i h0 h1 => by
    have : i = 0 ∨ i = 1 := by omega
    rcases this with rfl | rfl
    · exact .inl ⟨rfl, hA.symm⟩
    · exact .inr ⟨rfl, hB.symm⟩
  -- the second loop
  have second : ∀ z : Sl, z.len = 0 → ∃ (J : Sl → Int → Prop) (M : Sl → Int → Nat), J z 0 ∧ ∀ t : Sl, Ranged t [some .i64, some .i64, some .u8, some .i64] → ∀ i : Int, Rng .i64 i → J t i →
      (i < s.len → (0 : Int) ≤ i ∧ i < s.len ∧ (Ranged (s.sub i 0) [some .i64, some .i64, some .u8, some .i64] → (t.len + (s.sub i 0).len) * 32 ≤ 140737488355328 ∧ Rng .i64 (i + 1) ∧ (J (Sl.app t (s.sub i 0)) (i + 1) ∧ M (Sl.app t (s.sub i 0)) (i + 1) < M t i))) ∧ (¬ i < s.len → q_Concat s t ∧ True) := by
    intro z hz
    refine ⟨fun t i => 0 ≤ i ∧ i ≤ 2 ∧ (i = 0 → t.len = 0) ∧ (i = 1 → eqPosts t a) ∧ (i = 2 → behind a b t), fun _ i => (2 - i).toNat, ⟨Int.le_refl _, by omega, fun _ => hz, fun h => absurd h (by omega), fun h => absurd h (by omega)⟩, fun t _ i _ ⟨h0, h1, g0, g1, g2⟩ => ⟨fun hlt => ?_, fun hge => ⟨?_, trivial⟩⟩⟩
    · rcases two i h0 hlt with ⟨rfl, e⟩ | ⟨rfl, e⟩
      · rw [e]
        have ht := g0 rfl
        refine ⟨h0, hlt, fun _ => ⟨by omega, rs _ (by omega), ⟨by omega, by omega, fun h => absurd h (by omega), fun _ => ⟨by rw [len_app]; omega, fun k k0 k1 => ?_⟩, fun h => absurd h (by omega)⟩, (by show (2 - ((0 : Int) + 1)).toNat < (2 - (0 : Int)).toNat; omega)⟩⟩
        have e1 : k - t.len = k := by omega
        unfold eqAt
        rw [int_app_ge (by omega), int_app_ge (by omega), int_app_ge (by omega), int_app_ge (by omega), e1]
        exact ⟨rfl, rfl, rfl, rfl⟩
      · rw [e]
        obtain ⟨hl, ht⟩ := g1 rfl
        refine ⟨h0, hlt, fun _ => ⟨by omega, rs _ (by omega), ⟨by omega, by omega, fun h => absurd h (by omega), fun h => absurd h (by omega), fun _ => ⟨by rw [len_app]; omega, fun k k0 k1 => ?_, fun k k0 k1 => ?_⟩⟩, (by show (2 - ((1 : Int) + 1)).toNat < (2 - (1 : Int)).toNat; omega)⟩⟩
        · have := ht k k0 (by omega)
          unfold eqAt at this ⊢
          rw [int_app_lt k0 (by omega), int_app_lt k0 (by omega), int_app_lt k0 (by omega), int_app_lt k0 (by omega)]
          exact this
        · have e1 : a.len + k - t.len = k := by omega
          unfold eqAt
          rw [int_app_ge (by omega), int_app_ge (by omega), int_app_ge (by omega), int_app_ge (by omega), e1]
          exact ⟨rfl, rfl, rfl, rfl⟩
    · have : i = 2 := by omega
      show behind (s.sub 0 0) (s.sub 1 0) t
      rw [← hA, ← hB]
      exact g2 this
  refine ⟨fun x i => 0 ≤ i ∧ i ≤ 2 ∧ 0 ≤ x ∧ x ≤ 1000000 * i, fun _ i => (2 - i).toNat, ⟨Int.le_refl _, by omega, Int.le_refl _, by omega⟩, fun x _ i _ ⟨h0, h1, hx0, hx1⟩ => ⟨fun hlt => ⟨h0, hlt, fun _ _ => ?_⟩, fun hge => ⟨fun h => absurd h (by omega), fun _ => ?_⟩⟩⟩
  · have hl : 0 ≤ (s.sub i 0).len ∧ (s.sub i 0).len ≤ 1000000 := by
      rcases two i h0 hlt with ⟨_, e⟩ | ⟨_, e⟩ <;> rw [e] <;> exact ⟨by assumption, by assumption⟩
    refine ⟨rs _ (by omega), fun h => absurd h (by omega), fun _ => ⟨rs _ (by omega), ⟨by omega, by omega, by omega, by omega⟩, ?_⟩⟩
    show (2 - (i + 1)).toNat < (2 - i).toNat; omega
  · refine ⟨rs _ (by omega), rs _ (by omega), fun hpos => ⟨by omega, by omega, by omega, by omega, by omega, by omega, by omega, ?_, fun _ => second _ rfl⟩, fun _ _ => second _ rfl⟩
    show (0 : Int) ≤ ((_ : Nat) : Int)
    exact Int.natCast_nonneg _

theorem lit_sub0 (p q : Sl) : (Sl.lit [[(Sl.d p)], [(Sl.d q)]]).sub 0 0 = p := rfl

theorem lit_sub1 (p q : Sl) : (Sl.lit [[(Sl.d p)], [(Sl.d q)]]).sub 1 0 = q := rfl

theorem Post_ok : V_Post := by
  intro st _ d p q hq
  have rs := rsL
  have hd0 := len0 d
  have hp0 := len0 p
  have hq0 := len0 q
  have hq : q.len ≤ 1000000 := hq
  have bad : ¬ postOk st d p q → q_Post st d p q 0 Sl.nil Sl.nil 2 ∧ True := fun h => ⟨⟨fun _ => ⟨rfl, rfl, rfl, rfl⟩, fun g => absurd g h⟩, trivial⟩
  have hc : ∀ (P' : Prop), p.len ≤ 4000 → (P' → True) → p_Concat (Sl.lit [[(Sl.d p)], [(Sl.d q)]]) := fun _ h _ => ⟨rfl, by rw [lit_sub0]; omega, by rw [lit_sub1]; exact hq⟩
  have tail : postOk st d p q → p.len + q.len ≤ 4000 → ∀ (d' : Sl), eqDue d' d → p_Concat (Sl.lit [[(Sl.d p)], [(Sl.d q)]]) ∧ ∀ s7 : Sl, q_Concat (Sl.lit [[(Sl.d p)], [(Sl.d q)]]) s7 → q_Post st d p q st d' s7 0 ∧ True := fun h1 h2 d' hd' => by
    refine ⟨⟨rfl, by rw [lit_sub0]; omega, by rw [lit_sub1]; exact hq⟩, fun s hs => ⟨⟨fun h => absurd h1 h, fun _ => ⟨fun h => absurd h2 (by omega), fun _ => ⟨rfl, rfl, hd', ?_⟩⟩⟩, trivial⟩⟩
    have hs : behind ((Sl.lit [[(Sl.d p)], [(Sl.d q)]]).sub 0 0) ((Sl.lit [[(Sl.d p)], [(Sl.d q)]]).sub 1 0) s := hs
    rw [lit_sub0, lit_sub1] at hs
    exact hs
  have e0 : (Sl.lit []).len = 0 := rfl
  have whole : postOk st d p q → p.len + q.len ≤ 4000 → ∀ b6 : Bool, ((b6 = true → d.len ≤ 0 → p_Concat (Sl.lit [[(Sl.d p)], [(Sl.d q)]]) ∧ ∀ s7 : Sl, q_Concat (Sl.lit [[(Sl.d p)], [(Sl.d q)]]) s7 → q_Post st d p q st Sl.nil s7 0 ∧ True) ∧
      (¬ b6 = true → (Sl.len (Sl.lit []) + d.len) * 8 ≤ 140737488355328 ∧ p_Concat (Sl.lit [[(Sl.d p)], [(Sl.d q)]]) ∧ ∀ s7 : Sl, q_Concat (Sl.lit [[(Sl.d p)], [(Sl.d q)]]) s7 → q_Post st d p q st (Sl.app (Sl.lit []) d) s7 0 ∧ True)) := fun h1 h2 b6 =>
    ⟨fun _ hz => tail h1 h2 _ (eqDue_nil hz), fun _ => ⟨by have := h1.1.1; omega, tail h1 h2 _ (eqDue_nilapp d)⟩⟩
  have main : ∀ day : Int, day = lastDay p → validS st d p → p_follow st d p q day ∧ ∀ b5 : Bool, q_follow st d p q day (decide (b5 = true)) → (¬ b5 = true → q_Post st d p q 0 Sl.nil Sl.nil 2 ∧ True) ∧ (¬ ¬ b5 = true → Small p → Small q → Rng .i64 (p.len + q.len) ∧ (p.len + q.len > 4000 → q_Post st d p q 0 Sl.nil Sl.nil 5 ∧ True) ∧ (¬ p.len + q.len > 4000 → (postOk st d p q ∧ p.len + q.len ≤ 4000))) := fun day hday hv => by
    refine ⟨⟨hv.1.1, hv.1.2.1, hv.1.2.2.1⟩, fun b5 hb => ?_⟩
    have hp4 := hv.2.2.1
    have hb : b5 = true ↔ followS st d.len q day := by simpa [q_follow] using hb
    refine ⟨fun hn => bad fun h => hn (hb.2 (by rw [hday]; exact h.2)), fun hn _ _ => ?_⟩
    have hok : postOk st d p q := ⟨hv, by rw [← hday]; exact hb.1 (by simpa using hn)⟩
    refine ⟨rs _ (by omega), fun hgt => ⟨⟨fun h => absurd hok h, fun _ => ⟨fun _ => ⟨rfl, rfl, rfl, rfl⟩, fun h => absurd h (by omega)⟩⟩, trivial⟩, fun hle => ⟨hok, by omega⟩⟩
  refine ⟨trivial, fun b4 hb4 => ?_⟩
  have hb4 : b4 = true ↔ validS st d p := by simpa [q_Valid] using hb4
  refine ⟨fun hn => bad fun h => hn (hb4.2 h.1), fun hn => ?_⟩
  have hv : validS st d p := hb4.1 (by simpa using hn)
  have hp4 := hv.2.2.1
  refine fun _ => ⟨fun hpos => ⟨rs _ (by omega), by omega, by omega, fun _ => ?_⟩, fun hpos => ?_⟩
  · obtain ⟨m1, m2⟩ := main (p.int (p.len - 1) 0) (by unfold lastDay; rw [if_pos hpos]) hv
    refine ⟨m1, fun b5 hb5 => ?_⟩
    obtain ⟨m3, m4⟩ := m2 b5 hb5
    refine ⟨m3, fun hn5 s1 s2 => ?_⟩
    obtain ⟨m5, m6, m7⟩ := m4 hn5 s1 s2
    exact ⟨m5, m6, fun hle => ⟨whole (m7 hle).1 (m7 hle).2, whole (m7 hle).1 (m7 hle).2⟩⟩
  · obtain ⟨m1, m2⟩ := main 0 (by unfold lastDay; rw [if_neg hpos]) hv
    refine ⟨m1, fun b5 hb5 => ?_⟩
    obtain ⟨m3, m4⟩ := m2 b5 hb5
    refine ⟨m3, fun hn5 s1 s2 => ?_⟩
    obtain ⟨m5, m6, m7⟩ := m4 hn5 s1 s2
    exact ⟨m5, m6, fun hle => ⟨whole (m7 hle).1 (m7 hle).2, whole (m7 hle).1 (m7 hle).2⟩⟩

theorem Few_ok : V_Few := by
  intro st hst d p _
  simp only [q_Few, decide_eq_true_eq, decide_true, decide_false]
  repeat' first | apply And.intro | (intro _)
  all_goals grind

theorem Balance_ok : V_Balance := by
  intro st _ d p bf _ _
  refine ⟨trivial, fun b hb => ⟨fun hn => ⟨?_, trivial⟩, fun hn hsd => ?_⟩⟩
  · have : ¬ validS st d p := fun hv => hn (by simpa using hb.2 hv)
    exact ⟨fun _ => ⟨rfl, rfl⟩, fun hv => absurd hv this⟩
  have hv : validS st d p := hb.1 (by simpa using hn)
  have hb := hv.1
  have hd0 := len0 d
  have hl : st ≤ lastS st d.len bf ∧ lastS st d.len bf ≤ st + d.len := by
    unfold lastS imin imax
    split <;> split <;> omega
  have e : imin (imax bf st) (st + d.len) = lastS st d.len bf := rfl
  rw [e]
  obtain ⟨n, hn⟩ : ∃ n : Nat, (n : Int) = lastS st d.len bf - st := ⟨(lastS st d.len bf - st).toNat, by omega⟩
  rw [← hn]
  have hlen : (Sl.part d 0 (n : Int)).len = (n : Int) := by simp [Sl.part, Sl.len]
  have hint : ∀ i : Int, 0 ≤ i → (Sl.part d 0 (n : Int)).int i 0 = d.int i 0 := fun i _ => by simp [Sl.part, Sl.int]
  refine ⟨by rw [rng64]; omega, by rw [rng64]; omega, Int.le_refl _, by omega, by omega, fun _ => ?_⟩
  have hdb : ∀ i : Int, 0 ≤ i → i < (n : Int) → -1099511627776 ≤ d.int i 0 ∧ d.int i 0 ≤ 1099511627776 := fun i h0 h1 => by
    have := hv.2.1 i h0 (by omega); omega
  obtain ⟨J, hJ⟩ : ∃ J : Int → Int → Prop, J = fun x i => 0 ≤ i ∧ i ≤ (n : Int) ∧ x = sumTo (fun i => d.int i 0) i.toNat := ⟨_, rfl⟩
  obtain ⟨m, hm⟩ : ∃ m : Int → Int → Nat, m = fun _ i => ((n : Int) - i).toNat := ⟨_, rfl⟩
  refine ⟨J, m, by rw [hJ]; exact ⟨Int.le_refl _, by omega, rfl⟩, fun x hx i hi hj => ?_⟩
  rw [hJ] at hj
  obtain ⟨h0, h1, hxs⟩ := hj
  rw [hlen]
  refine ⟨fun hlt => ⟨h0, hlt, fun _ => ?_⟩, fun hge hsm => ?_⟩
  · rw [hint i h0]
    obtain ⟨s1, s2, s3⟩ := sum_loop (n := n) (by omega) hdb h0 hlt hxs
    refine ⟨s1, s2, ?_, ?_⟩
    · rw [hJ]; exact ⟨by omega, by omega, s3⟩
    · rw [hm]; show ((n : Int) - (i + 1)).toNat < ((n : Int) - i).toNat; omega
  have hx1 : x = sumTo (fun i => d.int i 0) n := by rw [hxs]; congr 1; omega
  have hp : (p.n : Int) ≤ 4000 := hv.2.2.1
  have hf := hv.2.2.2
  obtain ⟨f, hff⟩ : ∃ f : Int → Int, f = fun i => if p.int i 1 < bf then prin p i else 0 := ⟨_, rfl⟩
  have hbound : ∀ i : Int, 0 ≤ i → i < (p.n : Int) → -1099511627776 ≤ f i ∧ f i ≤ 1099511627776 := fun i h0 h1 => by
    have := prin_bound (hf i h0 h1)
    rw [hff]
    show -1099511627776 ≤ (if p.int i 1 < bf then prin p i else 0) ∧ (if p.int i 1 < bf then prin p i else 0) ≤ 1099511627776
    split <;> omega
  obtain ⟨J2, hJ2⟩ : ∃ J : Int → Int → Prop, J = fun x i => 0 ≤ i ∧ i ≤ p.len ∧ x = sumTo f i.toNat := ⟨_, rfl⟩
  obtain ⟨m2, hm2⟩ : ∃ m : Int → Int → Nat, m = fun _ i => (p.len - i).toNat := ⟨_, rfl⟩
  refine ⟨J2, m2, by rw [hJ2]; exact ⟨Int.le_refl _, len0 p, rfl⟩, fun y hy k hk hj => ?_⟩
  rw [hJ2] at hj
  obtain ⟨k0, k1, hys⟩ := hj
  refine ⟨fun hlt => ⟨k0, hlt, fun _ _ _ _ => ?_⟩, fun hge => ?_⟩
  · obtain ⟨s1, s2, s3⟩ := sum_loop hp hbound k0 hlt hys
    have hfi : f k = if p.int k 1 < bf then (if p.int k 2 = 3 then 0 else p.int k 3) else 0 := by rw [hff]; rfl
    have fin : ∀ z, f k = z → Rng .i64 (y + z) ∧ Rng .i64 (k + 1) ∧ J2 (y + z) (k + 1) ∧ m2 (y + z) (k + 1) < m2 y k := fun z hz => by
      rw [← hz]
      refine ⟨s1, s2, ?_, ?_⟩
      · rw [hJ2]; exact ⟨by omega, by omega, s3⟩
      · rw [hm2]; show (p.len - (k + 1)).toNat < (p.len - k).toNat; omega
    refine ⟨fun h => fin 0 (by rw [hfi, if_neg (by omega)]), fun h => ⟨fun g => fin 0 ?_, fun g => fin _ ?_⟩⟩
    · rw [hfi, if_pos (by omega), if_pos g]
    · rw [hfi, if_pos (by omega), if_neg g]
  · have e2 : k.toNat = p.n := by unfold Sl.len at *; omega
    rw [e2] at hys
    have b1 := sumTo_bound hdb
    have b2 := sumTo_bound hbound
    refine ⟨by rw [rng64]; omega, ⟨fun h => absurd hv h, fun _ => ⟨?_, rfl⟩⟩, trivial⟩
    unfold balS
    rw [← hn, hx1, hys, hff]
    rfl

theorem example_ok : V_example := by
  intro _
  refine ⟨?_, trivial⟩
  unfold q_example
  decide

theorem At_ok : V_At := by
  intro st _ d p day _ _
  refine ⟨trivial, fun b hb => ⟨fun hn => ⟨?_, trivial⟩, fun hn hsm => ?_⟩⟩
  · have : ¬ validS st d p := fun hv => hn (by simpa using hb.2 hv)
    exact ⟨fun _ => ⟨rfl, rfl, rfl, rfl⟩, fun hv => absurd hv this⟩
  have hv : validS st d p := hb.1 (by simpa using hn)
  have hp : p.len ≤ 4000 := hv.2.2.1
  have hd : d.len ≤ 1200 := hv.1.2.2.1
  have hf := hv.2.2.2
  obtain ⟨J, hJ⟩ : ∃ J : Sl → Int → Prop, J = fun s i => 0 ≤ i ∧ i ≤ p.len ∧ s.len ≤ i ∧ (∀ k : Int, 0 ≤ k → k < s.len → eqAt s k p k ∧ p.int k 0 ≤ day) ∧ (s.len < i → day < p.int s.len 0) := ⟨_, rfl⟩
  obtain ⟨m, hm⟩ : ∃ m : Sl → Int → Nat, m = fun _ i => (p.len - i).toNat := ⟨_, rfl⟩
  refine ⟨J, m, by rw [hJ]; exact ⟨Int.le_refl _, len0 p, Int.le_refl _, fun k h0 h1 => by rw [len_nil] at h1; omega, fun h => by rw [len_nil] at h; omega⟩, fun s i hi hj => ?_⟩
  rw [hJ] at hj
  obtain ⟨h0, h1, h2, h3, h4⟩ := hj
  have hs0 := len0 s
  refine ⟨fun hlt => ⟨h0, hlt, fun _ _ _ _ => ⟨fun hle => ?_, fun hgt => ?_⟩⟩, fun hge b8 => ?_⟩
  · have heq : s.len = i := by
      rcases Int.lt_or_eq_of_le h2 with h | h
      · have := h4 h
        have := day_le hf hs0 h2 hlt
        omega
      · exact h
    refine ⟨by rw [len_lit]; simp; omega, by rw [rng64]; omega, ?_, ?_⟩
    · rw [hJ]
      refine ⟨by omega, by omega, by rw [len_app, len_lit]; simp; omega, fun k g0 g1 => ?_, fun g => ?_⟩
      · rw [len_app, len_lit] at g1
        simp only [List.length_cons, List.length_nil] at g1
        by_cases ek : k < s.len
        · have := h3 k g0 ek
          refine ⟨?_, this.2⟩
          unfold eqAt
          rw [int_app_lt g0 ek, int_app_lt g0 ek, int_app_lt g0 ek, int_app_lt g0 ek]
          exact this.1
        · have e : k = i := by omega
          subst e
          refine ⟨?_, hle⟩
          unfold eqAt
          rw [int_app_ge (by omega), int_app_ge (by omega), int_app_ge (by omega), int_app_ge (by omega)]
          have e0 : k - s.len = 0 := by omega
          rw [e0]
          exact ⟨rfl, rfl, rfl, rfl⟩
      · rw [len_app, len_lit] at g
        simp only [List.length_cons, List.length_nil] at g
        omega
    · rw [hm]; show (p.len - (i + 1)).toNat < (p.len - i).toNat; omega
  · refine ⟨by rw [rng64]; omega, ?_, ?_⟩
    · rw [hJ]
      refine ⟨by omega, by omega, by omega, h3, fun _ => ?_⟩
      rcases Int.lt_or_eq_of_le h2 with h | h
      · exact h4 h
      · rw [h]; omega
    · rw [hm]; show (p.len - (i + 1)).toNat < (p.len - i).toNat; omega
  · have hup : upTo p day s := by
      refine ⟨by omega, h3, fun k g0 g1 => ?_⟩
      have := h4 (by omega)
      have := day_le hf hs0 g0 g1
      omega
    refine ⟨fun _ hz => ⟨⟨fun h => absurd hv h, fun _ => ⟨rfl, rfl, eqDue_nil hz, hup⟩⟩, trivial⟩, fun _ => ⟨by rw [len_lit]; simp; omega, ⟨fun h => absurd hv h, fun _ => ⟨rfl, rfl, eqDue_nilapp d, hup⟩⟩, trivial⟩⟩

theorem len_rep0 (l : List D) : (Sl.rep 0 l).len = 0 := rfl

theorem int_lit0 (x : Int) : (Sl.lit [[.int x]]).int 0 0 = x := rfl

theorem wrap64 {x : Int} (h : -9223372036854775808 ≤ x) (h' : x ≤ 9223372036854775807) : IntKind.wrap .i64 x = x := by rw [IntKind.wrap_i64]; omega

theorem Learn_ok : V_Learn := by
  intro st _ d p m hrm due _ _ hsd
  have hd0 := len0 d
  refine ⟨trivial, fun b hb => ⟨fun hn => ⟨?_, trivial⟩, fun hn => ?_⟩⟩
  · have : ¬ validS st d p := fun hv => hn (by simpa using hb.2 hv)
    exact ⟨fun _ => ⟨rfl, rfl, rfl, rfl⟩, fun hv => absurd hv.1 this⟩
  have hv : validS st d p := hb.1 (by simpa using hn)
  have hbs := hv.1
  have hp : p.len ≤ 4000 := hv.2.2.1
  have bad : ¬ (0 ≤ due ∧ due ≤ 1099511627776 ∧ st ≤ m ∧ m ≤ st + d.len) → q_Learn st d p m due 0 Sl.nil Sl.nil 2 ∧ True := fun h => ⟨⟨fun _ => ⟨rfl, rfl, rfl, rfl⟩, fun hv => absurd hv.2 h⟩, trivial⟩
  refine ⟨fun h => bad (by omega), fun h1 => ⟨fun h => bad (by omega), fun h2 => ⟨fun h => bad (by omega), fun h3 => ?_⟩⟩⟩
  rw [rng64] at hrm
  have w1 : IntKind.wrap .i64 (st + d.len) = st + d.len := wrap64 (by omega) (by omega)
  have w2 : IntKind.wrap .i64 (d.len + 1) = d.len + 1 := wrap64 (by omega) (by omega)
  have w3 : IntKind.wrap .i64 (m - st) = m - st := wrap64 (by omega) (by omega)
  simp only [w1, w2, w3]
  refine ⟨fun h => bad (by omega), fun h4 => ?_⟩
  have hok : learnOk st d p m due := ⟨hv, by omega, by omega, by omega, by omega⟩
  have many : learnMany st d m → q_Learn st d p m due 0 Sl.nil Sl.nil 5 ∧ True := fun h => ⟨⟨fun hn => absurd hok hn, fun _ => ⟨fun _ => ⟨rfl, rfl, rfl, rfl⟩, fun hn => absurd h hn⟩⟩, trivial⟩
  have good : ¬ learnMany st d m → ∀ d' p' : Sl, learnt st d p m due st d' p' → q_Learn st d p m due st d' p' 0 := fun h d' p' hl => ⟨fun hn => absurd hok hn, fun _ => ⟨fun hm => absurd hm h, fun _ => ⟨rfl, hl⟩⟩⟩
  have hlenA : (Sl.app (Sl.rep 0 [.int 0]) d).len = d.len := by rw [len_app, len_rep0]; omega
  have hintA : ∀ i : Int, 0 ≤ i → (Sl.app (Sl.rep 0 [.int 0]) d).int i 0 = d.int i 0 := fun i h => by
    rw [int_app_ge (by rw [len_rep0]; exact h), len_rep0, Int.sub_zero]
  have hlenB : (Sl.app (Sl.app (Sl.rep 0 [.int 0]) d) (Sl.lit [[.int due]])).len = d.len + 1 := by rw [len_app, hlenA, len_lit]; rfl
  have hintB : ∀ i : Int, 0 ≤ i → i < d.len → (Sl.app (Sl.app (Sl.rep 0 [.int 0]) d) (Sl.lit [[.int due]])).int i 0 = d.int i 0 := fun i h g => by
    rw [int_app_lt h (by rw [hlenA]; exact g), hintA i h]
  have tail : ∀ d' : Sl, d'.len = imax d.len (m - st + 1) → (∀ i : Int, 0 ≤ i → i < d'.len → d'.int i 0 = if i = m - st then due else d.int i 0) → ¬ learnMany st d m →
      ∀ b6 : Bool, ((b6 = true → p.len ≤ 0 → q_Learn st d p m due st d' Sl.nil 0 ∧ True) ∧ (¬ (b6 = true) → ((Sl.len (Sl.lit []) + p.len) * 32 ≤ 140737488355328) ∧ q_Learn st d p m due st d' (Sl.app (Sl.lit []) p) 0 ∧ True)) := fun d' g1 g2 g3 b6 =>
    ⟨fun _ hz => ⟨good g3 d' _ ⟨rfl, eqPosts_nil hz, g1, g2⟩, trivial⟩, fun _ => ⟨by rw [len_lit]; simp; omega, good g3 d' _ ⟨rfl, eqPosts_nilapp p, g1, g2⟩, trivial⟩⟩
  have tailB : m = st + d.len → ¬ learnMany st d m → _ := fun e => tail (Sl.upd (Sl.app (Sl.app (Sl.rep 0 [.int 0]) d) (Sl.lit [[.int due]])) (m - st) 0 [.int due])
    (by rw [len_upd, hlenB]; unfold imax; split <;> omega) (fun i g0 g1 => by
      rw [len_upd, hlenB] at g1
      rw [int_upd (by omega) g0]
      by_cases ei : i = m - st
      · rw [if_pos ei, if_pos ei]
      · rw [if_neg ei, if_neg ei, hintB i g0 (by omega)])
  have tailA : ¬ m = st + d.len → ¬ learnMany st d m → _ := fun e => tail (Sl.upd (Sl.app (Sl.rep 0 [.int 0]) d) (m - st) 0 [.int due])
    (by rw [len_upd, hlenA]; unfold imax; split <;> omega) (fun i g0 g1 => by
      rw [int_upd (by omega) g0, hintA i g0])
  refine ⟨fun e _ => ⟨fun g => many ⟨e, .inl g⟩, fun g1 => ⟨fun g => many ⟨e, .inr g⟩, fun g2 _ => ?_⟩⟩, fun e _ => ?_⟩
  · have hnm : ¬ learnMany st d m := fun hm => by rcases hm.2 with h | h <;> omega
    refine ⟨Int.le_refl _, by omega, by omega, by rw [len_rep0]; omega, fun e => ⟨by rw [hlenA, len_lit]; simp; omega, by omega, by rw [hlenB]; omega, tailB e hnm⟩, fun e' => absurd e e'⟩
  · have hnm : ¬ learnMany st d m := fun hm => e hm.1
    refine ⟨Int.le_refl _, by omega, by omega, by rw [len_rep0]; omega, fun e' => absurd e' e, fun e => ⟨by omega, by rw [hlenA]; omega, tailA e hnm⟩⟩



theorem sumTo_congr {f g : Int → Int} : ∀ {n : Nat}, (∀ i : Int, 0 ≤ i → i < n → f i = g i) → sumTo f n = sumTo g n
  | 0, _ => rfl
  | n + 1, h => by
    simp only [sumTo]
    rw [sumTo_congr (fun i h0 h1 => h i h0 (by omega)), h n (by omega) (by omega)]

theorem eqPosts_n {p q : Sl} (h : eqPosts p q) : p.n = q.n := by
  have := h.1
  unfold Sl.len at this
  omega

theorem postedS_eq {p q : Sl} (h : eqPosts p q) (m : Int) : postedS p m = postedS q m := by
  unfold postedS
  rw [← eqPosts_n h]
  refine sumTo_congr fun i h0 h1 => ?_
  obtain ⟨_, e1, e2, e3⟩ := h.2 i h0 h1
  unfold prin
  rw [e1, e2, e3]

theorem okAt_eq {st n n' : Int} {p q : Sl} {d0 i : Int} (hn : n ≤ n') (h : eqAt p i q i) (hprev : i ≠ 0 → p.int (i - 1) 0 = q.int (i - 1) 0) (hq : okAt st n q d0 i) : okAt st n' p d0 i := by
  obtain ⟨h1, h2⟩ := hq
  obtain ⟨e0, e1, e2, e3⟩ := h
  unfold okAt fitAt fitsS prev at *
  rw [e0, e1, e2, e3]
  obtain ⟨g1, g2⟩ := h1
  refine ⟨⟨by omega, g2⟩, ?_⟩
  by_cases e : i = 0
  · rw [if_pos e] at *; exact h2
  · rw [if_neg e] at *; rw [hprev e]; exact h2

theorem follow_eq {st n n' : Int} {p q : Sl} {d0 : Int} (hn : n ≤ n') (hl : p.len ≤ q.len) (h : ∀ i : Int, 0 ≤ i → i < p.len → eqAt p i q i) (hq : followS st n q d0) : followS st n' p d0 := fun i h0 h1 =>
  okAt_eq hn (h i h0 h1) (fun e => (h (i - 1) (by omega) (by omega)).1) (hq i h0 (by omega))

theorem learnt_valid {st : Int} {d p : Sl} {m due st' : Int} {d' p' : Sl} (hok : learnOk st d p m due) (hm : ¬ learnMany st d m) (hl : learnt st d p m due st' d' p') : validS st' d' p' := by
  obtain ⟨hv, h1, h2, h3, h4⟩ := hok
  obtain ⟨rfl, hp, hlen, hd⟩ := hl
  have hb := hv.1
  have hmax : d'.len = d.len ∨ (d'.len = d.len + 1 ∧ m = st' + d.len) := by
    rw [hlen]; unfold imax; split
    · exact .inr (by omega)
    · exact .inl rfl
  have hmany : m = st' + d.len → d.len < 1200 ∧ m < 2400 := fun e => by
    unfold learnMany at hm
    omega
  refine ⟨by omega, fun i g0 g1 => ?_, by rw [hp.1]; exact hv.2.2.1, follow_eq (by omega) (Int.le_of_eq hp.1) hp.2 hv.2.2.2⟩
  rw [hd i g0 g1]
  split
  · exact ⟨h1, h2⟩
  · exact hv.2.1 i g0 (by omega)

theorem upTo_valid {st : Int} {d p : Sl} {day : Int} {d' p' : Sl} (hv : validS st d p) (hd : eqDue d' d) (hu : upTo p day p') : validS st d' p' := by
  have hl := hd.1
  refine ⟨by rw [hl]; exact hv.1, fun i h0 h1 => by rw [hd.2 i h0 h1]; exact hv.2.1 i h0 (by omega), Int.le_trans hu.1 hv.2.2.1, follow_eq (by omega) hu.1 (fun i h0 h1 => (hu.2.1 i h0 h1).1) hv.2.2.2⟩

theorem five {P : Int → Prop} {n : Int} (hn : n = 5) (h0 : P 0) (h1 : P 1) (h2 : P 2) (h3 : P 3) (h4 : P 4) : ∀ i : Int, 0 ≤ i → i < n → P i := fun i g0 g1 => by
  have : i = 0 ∨ i = 1 ∨ i = 2 ∨ i = 3 ∨ i = 4 := by omega
  rcases this with rfl | rfl | rfl | rfl | rfl <;> assumption

theorem ex_valid {st : Int} {d p : Sl} (h : q_example st d p) : validS st d p := by
  obtain ⟨rfl, hd, d0, d1, d2, hp, ⟨a0, a1, a2, a3⟩, ⟨b0, b1, b2, b3⟩, ⟨c0, c1, c2, c3⟩, ⟨e0, e1, e2, e3⟩, ⟨f0, f1, f2, f3⟩⟩ := h
  refine ⟨by omega, fun i h0 h1 => ?_, by omega, five hp ?_ ?_ ?_ ?_ ?_⟩
  · have : i = 0 ∨ i = 1 ∨ i = 2 := by omega
    rcases this with rfl | rfl | rfl <;> omega
  all_goals simp [okAt, fitAt, fitsS, prev, hd, a0, a1, a2, a3, b0, b1, b2, b3, c0, c1, c2, c3, e0, e1, e2, e3, f0, f1, f2, f3]

theorem ex_n {st : Int} {d p : Sl} (h : q_example st d p) : p.n = 5 ∧ d.n = 3 := by
  have h1 := h.2.1
  have h2 := h.2.2.2.2.2.1
  unfold Sl.len at h1 h2
  omega

theorem sumTo3 (f : Int → Int) : sumTo f 3 = f 0 + f 1 + f 2 := by simp [sumTo]
theorem sumTo2 (f : Int → Int) : sumTo f 2 = f 0 + f 1 := by simp [sumTo]
theorem sumTo5 (f : Int → Int) : sumTo f 5 = f 0 + f 1 + f 2 + f 3 + f 4 := by simp [sumTo]

theorem ex_posted {st : Int} {d p : Sl} (h : q_example st d p) : postedS p 1500 = 100 ∧ postedS p 1501 = 90 ∧ postedS p 1502 = 130 := by
  have hn := (ex_n h).1
  obtain ⟨rfl, hd, d0, d1, d2, hp, ⟨a0, a1, a2, a3⟩, ⟨b0, b1, b2, b3⟩, ⟨c0, c1, c2, c3⟩, ⟨e0, e1, e2, e3⟩, ⟨f0, f1, f2, f3⟩⟩ := h
  unfold postedS
  rw [hn, sumTo5, sumTo5, sumTo5]
  simp [prin, a1, a2, a3, b1, b2, b3, c1, c2, e1, e2, e3, f1, f2, f3]

theorem ex_bal {st : Int} {d p : Sl} (h : q_example st d p) : balS st d p 1502 = 10 ∧ balS st d p 1503 = 0 := by
  have hn := (ex_n h).1
  obtain ⟨rfl, hd, d0, d1, d2, hp, ⟨a0, a1, a2, a3⟩, ⟨b0, b1, b2, b3⟩, ⟨c0, c1, c2, c3⟩, ⟨e0, e1, e2, e3⟩, ⟨f0, f1, f2, f3⟩⟩ := h
  unfold balS
  rw [hn, hd]
  have l1 : (lastS 1500 3 1502 - 1500).toNat = 2 := by decide
  have l2 : (lastS 1500 3 1503 - 1500).toNat = 3 := by decide
  rw [l1, l2, sumTo2, sumTo3, sumTo5, sumTo5]
  simp [prin, d0, d1, d2, a1, a2, a3, b1, b2, b3, c1, c2, e1, e2, e3, f1, f2, f3]




theorem awake_ok : V_awake := by
  intro _
  refine ⟨trivial, fun st _ d p hex _ => ?_⟩
  have hv := ex_valid hex
  have hpo := ex_posted hex
  have hba := ex_bal hex
  have hex' := hex
  obtain ⟨rfl, hd, d0, d1, d2, hp, ⟨a0, a1, a2, a3⟩, ⟨b0, b1, b2, b3⟩, ⟨c0, c1, c2, c3⟩, ⟨e0, e1, e2, e3⟩, ⟨f0, f1, f2, f3⟩⟩ := hex
  refine ⟨fun i => 0 ≤ i ∧ i ≤ 3, fun i => (3 - i).toNat, by decide, fun i hri hj => ?_⟩
  obtain ⟨hi0, hi1⟩ := hj
  have hl3 : (Sl.lit [[.int 0], [.int 10], [.int (-10)]]).len = 3 := rfl
  rw [hl3]
  refine ⟨fun hlt => ⟨hi0, hlt, fun _ => ⟨by rw [rng64]; omega, trivial, fun x _ e _ hq => ?_⟩⟩, fun hge => ?_⟩
  · have hi : i = 0 ∨ i = 1 ∨ i = 2 := by omega
    have hh : hasS 1500 d (1500 + i) := ⟨by omega, by omega⟩
    obtain ⟨hx, he⟩ := (hq.2 hv).2 hh
    have hx' : x = (Sl.lit [[.int 0], [.int 10], [.int (-10)]]).int i 0 := by
      rw [hx]
      rcases hi with rfl | rfl | rfl
      · show d.int 0 0 - postedS p 1500 = 0; omega
      · show d.int 1 0 - postedS p 1501 = 10; omega
      · show d.int 2 0 - postedS p 1502 = -10; omega
    refine ⟨fun h => absurd hx' h, fun _ => ⟨fun h => absurd he h, fun _ => ⟨by rw [rng64]; omega, ⟨by omega, by omega⟩, ?_⟩⟩⟩
    show (3 - (i + 1)).toNat < (3 - i).toNat; omega
  refine ⟨trivial, fun a _ ea _ hqa => ⟨trivial, fun b _ eb _ hqb => ⟨?_, fun s _ dm pm em _ hqm => ⟨trivial, fun c _ ec _ hqc => ⟨trivial, fun so _ dd po eo _ hqo => ⟨trivial, fun o _ e2 _ hqo2 => ?_⟩⟩⟩⟩⟩⟩
  · trivial
  obtain ⟨ha, hea⟩ := hqa.2 hv
  obtain ⟨hb, heb⟩ := hqb.2 hv
  have hok : learnOk 1500 d p 1500 80 := ⟨hv, by omega, by omega, by omega, by omega⟩
  have hnm : ¬ learnMany 1500 d 1500 := fun h => by have := h.1; omega
  obtain ⟨hem, hlm⟩ := (hqm.2 hok).2 hnm
  have hvm := learnt_valid hok hnm hlm
  obtain ⟨hs, hpm, hdl, hdm⟩ := hlm
  have hdl3 : dm.len = 3 := by rw [hdl, hd]; decide
  obtain ⟨hc, hec⟩ := (hqc.2 hvm).2 (by rw [hs]; exact ⟨by omega, by omega⟩)
  have hc' : c = -20 := by
    rw [hc, postedS_eq hpm, hs, hdm (1500 - 1500) (by omega) (by omega), if_pos rfl]
    omega
  obtain ⟨heo, hso, hdo, hup⟩ := hqo.2 hv
  have hvo := upTo_valid hv hdo hup
  rw [← hso] at hvo
  obtain ⟨ho, he2⟩ := (hqo2.2 hvo).2 (by rw [hso]; exact ⟨by omega, by have := hdo.1; omega⟩)
  have hpl : po.len = 3 := by
    obtain ⟨u1, u2, u3⟩ := hup
    have hl0 := len0 po
    rcases Int.lt_or_le po.len 3 with h | h
    · have h' : po.len = 0 ∨ po.len = 1 ∨ po.len = 2 := by omega
      have := u3 po.len (Int.le_refl _) (by omega)
      rcases h' with e | e | e <;> rw [e] at this <;> omega
    · rcases Int.lt_or_le 3 po.len with g | g
      · have := (u2 3 (by omega) g).2
        omega
      · omega
  have hpn : po.n = 3 := by unfold Sl.len at hpl; omega
  have ho' : o = 120 := by
    rw [ho, hso, hdo.2 (1502 - 1500) (by omega) (by have := hdo.1; omega)]
    have q0 := (hup.2.1 0 (by omega) (by omega)).1
    have q1 := (hup.2.1 1 (by omega) (by omega)).1
    have q2 := (hup.2.1 2 (by omega) (by omega)).1
    have : postedS po 1502 = 0 := by
      unfold postedS
      rw [hpn, sumTo3]
      simp [q0.2.1, q1.2.1, q2.2.1, a1, b1, c1]
    rw [this]
    show d.int 2 0 - 0 = 120
    omega
  have z : ∀ x : Int, x = 0 → Rng .i64 x := fun x h => by rw [h, rng64]; omega
  refine ⟨z _ (by omega), z _ (by omega), z _ (by omega), z _ (by omega), z _ (by omega), fun _ => ⟨fun _ => ⟨fun _ => ⟨fun _ => ⟨?_, trivial⟩, fun h => absurd hc' h⟩, fun h => absurd (hb.trans hba.2) h⟩, fun h => absurd (ha.trans hba.1) h⟩, fun h => absurd (by omega) h⟩
  show decide (o = 120) = true
  simp [ho']



theorem copied_ok : V_copied := by
  intro st _ d p ⟨h1, h2⟩
  have hq : q_copied st d p st (Sl.app (Sl.lit []) d) (Sl.app (Sl.lit []) p) := ⟨rfl, eqDue_nilapp d, eqPosts_nilapp p⟩
  have e : (Sl.lit []).len = 0 := rfl
  have a1 : (Sl.len (Sl.lit []) + Sl.len d) * 8 ≤ 140737488355328 := by omega
  have a2 : (Sl.len (Sl.lit []) + Sl.len p) * 32 ≤ 140737488355328 := by omega
  exact ⟨⟨⟨a1, a2, hq, trivial⟩, a1, a2, hq, trivial⟩, a1, a2, hq, trivial⟩

end Go.Sx.N.L

namespace Go.Sx.N
theorem has_ok : V_has := L.has_ok
theorem follow_ok : V_follow := L.follow_ok
theorem Valid_ok : V_Valid := L.Valid_ok
theorem posted_ok : V_posted := L.posted_ok
theorem Open_ok : V_Open := L.Open_ok
theorem Same_ok : V_Same := L.Same_ok
theorem rHas_ok : V_rHas := L.rHas_ok
theorem rRight_ok : V_rRight := L.rRight_ok
theorem rPosts_ok : V_rPosts := L.rPosts_ok
theorem rValid_ok : V_rValid := L.rValid_ok
theorem Concat_ok : V_Concat := L.Concat_ok
theorem Post_ok : V_Post := L.Post_ok
theorem Few_ok : V_Few := L.Few_ok
theorem Balance_ok : V_Balance := L.Balance_ok
theorem example_ok : V_example := L.example_ok
theorem At_ok : V_At := L.At_ok
theorem Learn_ok : V_Learn := L.Learn_ok
theorem awake_ok : V_awake := L.awake_ok
theorem copied_ok : V_copied := L.copied_ok
end Go.Sx.N
