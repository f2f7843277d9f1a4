/-
  The conditions of the functions of the tables. Conditions: none.
-/
import Derived.Test.YtjbknheeiaaioaaNumVH
import Derived.Test.YtjbknheeiaaioaaNumVG
set_option linter.unusedVariables false
set_option linter.unusedSimpArgs false
namespace Go.Sx.N

theorem kLimbs_ok : V_kLimbs := by
  intro a b _ c d _ _ sb sd
  have h1 := small64 sb
  have h2 := small64 sd
  have := len0 b
  have := len0 d
  exact ⟨by rw [rng64]; omega, rfl, trivial⟩

theorem cmpI_ok : V_cmpI := by
  intro x _ y _ _
  exact ⟨fun h => absurd rfl h, fun _ => ⟨fun h => absurd rfl h, fun _ => ⟨fun h => ⟨.inl ⟨rfl, h⟩, trivial⟩, fun h => ⟨fun g => ⟨.inr (.inr ⟨rfl, g⟩), trivial⟩, fun g => ⟨.inr (.inl ⟨rfl, by omega⟩), trivial⟩⟩⟩⟩⟩

theorem cmpOr_ok : V_cmpOr := by
  intro s _ _ sm
  have hs := small64 sm
  have s0 := len0 s
  refine ⟨fun i => (0 ≤ i ∧ i ≤ s.len) ∧ ∀ j : Int, 0 ≤ j → j < i → s.int j 0 = 0, fun i => (s.len - i).toNat, ⟨⟨Int.le_refl _, s0⟩, fun j h0 h1 => by omega⟩, fun i _ hJ => ?_⟩
  obtain ⟨⟨i0, i1⟩, hz⟩ := hJ
  refine ⟨fun hi => ⟨i0, hi, fun _ => ⟨fun hn => ⟨.inl ⟨i, i0, hi, rfl, hn, hz⟩, trivial⟩, fun hn => ?_⟩⟩, fun hi => ⟨.inr ⟨rfl, fun j j0 j1 => hz j j0 (by omega)⟩, trivial⟩⟩
  have hn : s.int i 0 = 0 := Classical.not_not.1 hn
  refine ⟨by rw [rng64]; omega, ⟨⟨by omega, by omega⟩, fun j j0 j1 => ?_⟩, by show (s.len - (i + 1)).toNat < (s.len - i).toNat; omega⟩
  by_cases h : j < i
  · exact hz j j0 h
  · have : j = i := by omega
    subst this; exact hn

theorem tCompare_ok : V_tCompare := by
  intro a _ b _ k _ nn nl _ dn dl _ a' _ b' _ k' _ nn' nl' _ dn' dl' _ _
  refine ⟨trivial, fun x _ hx => ⟨trivial, fun y _ hy => ⟨trivial, fun z _ hz => ⟨trivial, fun r _ hr => ⟨?_, trivial⟩⟩⟩⟩⟩
  have hx : (x = -1 ∧ a < a') ∨ (x = 0 ∧ a = a') ∨ (x = 1 ∧ a' < a) := hx
  have hy : (y = -1 ∧ b < b') ∨ (y = 0 ∧ b = b') ∨ (y = 1 ∧ b' < b) := hy
  have hz : (z = -1 ∧ k < k') ∨ (z = 0 ∧ k = k') ∨ (z = 1 ∧ k' < k) := hz
  have l3 : (Sl.lit [[D.int x], [.int y], [.int z]]).len = 3 := rfl
  have v0 : (Sl.lit [[D.int x], [.int y], [.int z]]).int 0 0 = x := rfl
  have v1 : (Sl.lit [[D.int x], [.int y], [.int z]]).int 1 0 = y := rfl
  have v2 : (Sl.lit [[D.int x], [.int y], [.int z]]).int 2 0 = z := rfl
  have : (r = x ∧ x ≠ 0) ∨ (x = 0 ∧ r = y ∧ y ≠ 0) ∨ (x = 0 ∧ y = 0 ∧ r = z) := by
    rcases hr with ⟨i, i0, i1, e, en, h⟩ | ⟨e, h⟩
    · rw [l3] at i1
      rcases (show i = 0 ∨ i = 1 ∨ i = 2 by omega) with rfl | rfl | rfl
      · rw [v0] at e; exact .inl ⟨e, by omega⟩
      · rw [v1] at e
        have := h 0 (by omega) (by omega)
        rw [v0] at this
        exact .inr (.inl ⟨this, e, by omega⟩)
      · rw [v2] at e
        have h0 := h 0 (by omega) (by omega)
        have h1 := h 1 (by omega) (by omega)
        rw [v0] at h0
        rw [v1] at h1
        exact .inr (.inr ⟨h0, h1, e⟩)
    · have h0 := h 0 (by omega) (by rw [l3]; omega)
      have h1 := h 1 (by omega) (by rw [l3]; omega)
      have h2 := h 2 (by omega) (by rw [l3]; omega)
      rw [v0] at h0
      rw [v1] at h1
      rw [v2] at h2
      exact .inr (.inr ⟨h0, h1, by omega⟩)
  show ordK a b k a' b' k' r
  unfold ordK ltK
  omega

theorem copied_ok : V_copied := by
  intro a b _ c d _ hp
  exact ⟨hp.1, fun b' _ hb => ⟨hp.2, fun d' _ hd => ⟨⟨⟨rfl, hb⟩, rfl, hd⟩, trivial⟩⟩⟩

theorem Right_ok : V_Right := by
  intro two a _ b _ k _ nn nl _ dn dl _ _
  simp only [Bool.decide_eq_true]
  refine ⟨fun i => (0 ≤ i ∧ i ≤ 2) ∧ (0 < i → -2147483648 ≤ a ∧ a ≤ 2147483647) ∧ (1 < i → -2147483648 ≤ b ∧ b ≤ 2147483647), fun i => (2 - i).toNat, ⟨⟨by omega, by omega⟩, fun h => by omega, fun h => by omega⟩, fun i _ hJ => ?_⟩
  obtain ⟨⟨i0, i1⟩, ha, hb⟩ := hJ
  have no : ∀ {p : Prop}, (rightS two a b k nn nl dn dl → False) → q_Right two a b k nn nl dn dl (decide False) ∧ True := fun h => ⟨⟨fun e => by simp at e, fun e => absurd e h⟩, trivial⟩
  refine ⟨fun hi => ⟨i0, hi, fun e0 => ⟨fun h => no (p := True) fun e => by have := e.1; omega, fun h => ⟨fun g => no (p := True) fun e => by have := e.1; omega, fun g => ⟨by rw [rng64]; omega, ⟨⟨by omega, by omega⟩, fun _ => by omega, fun h => by omega⟩, by show (2 - (i + 1)).toNat < (2 - i).toNat; omega⟩⟩⟩,
    fun e0 => ⟨fun h => no (p := True) fun e => by have := e.2.1; omega, fun h => ⟨fun g => no (p := True) fun e => by have := e.2.1; omega, fun g => ⟨by rw [rng64]; omega, ⟨⟨by omega, by omega⟩, fun _ => ha (by omega), fun h => by omega⟩, by show (2 - (i + 1)).toNat < (2 - i).toNat; omega⟩⟩⟩⟩, fun hi => ?_⟩
  have ha := ha (by omega)
  have hb := hb (by omega)
  have core : (two = true ∨ b = 0) → ((0 ≤ k → (k < 65536 → p_fValid nn nl dn dl ∧ ∀ r : Bool, q_fValid nn nl dn dl r → q_Right two a b k nn nl dn dl r ∧ True) ∧ (¬ k < 65536 → q_Right two a b k nn nl dn dl (decide False) ∧ True)) ∧ (¬ 0 ≤ k → q_Right two a b k nn nl dn dl (decide False) ∧ True)) := fun ht =>
    ⟨fun h0 => ⟨fun h1 => ⟨trivial, fun r hr => ⟨⟨fun e => ⟨ha, hb, ht, ⟨h0, h1⟩, hr.1 e⟩, fun e => hr.2 e.2.2.2.2⟩, trivial⟩⟩, fun h1 => no (p := True) fun e => by have := e.2.2.2.1; omega⟩, fun h0 => no (p := True) fun e => by have := e.2.2.2.1; omega⟩
  exact ⟨fun ht => core (.inl ht), fun ht => ⟨fun hb0 => core (.inr hb0), fun hb0 => no (p := True) fun e => by rcases e.2.2.1 with h | h; exact ht h; exact hb0 h⟩⟩

theorem tLess_ok : V_tLess := by
  intro a _ b _ k _ nn nl _ dn dl _ a' _ b' _ k' _ nn' nl' _ dn' dl' _ _
  have yes : ltK a b k a' b' k' → q_tLess a b k (decide (nn = true)) nl (decide (dn = true)) dl a' b' k' (decide (nn' = true)) nl' (decide (dn' = true)) dl' (decide True) ∧ True := fun h => ⟨⟨fun _ => h, fun _ => rfl⟩, trivial⟩
  have no : (¬ ltK a b k a' b' k') → q_tLess a b k (decide (nn = true)) nl (decide (dn = true)) dl a' b' k' (decide (nn' = true)) nl' (decide (dn' = true)) dl' (decide False) ∧ True := fun h => ⟨⟨fun e => by simp at e, fun e => absurd e h⟩, trivial⟩
  refine ⟨fun h => yes (.inl h), fun h1 => ⟨fun h2 => ⟨fun h3 => yes (.inr ⟨h2, .inl h3⟩), fun h3 => ⟨fun h4 => ⟨⟨fun e => .inr ⟨h2, .inr ⟨h4, of_decide_eq_true e⟩⟩, fun e => ?_⟩, trivial⟩, fun h4 => no fun e => ?_⟩⟩, fun h2 => no fun e => ?_⟩⟩
  · unfold ltK at e
    exact decide_eq_true (by omega)
  · unfold ltK at e; omega
  · unfold ltK at e; omega

theorem holds_ok : V_holds := by
  intro n _ s _ a _ b _ known _ _ sm
  have hs := small64 sm
  have s0 := len0 s
  refine ⟨fun r i => (0 ≤ i ∧ i ≤ s.len) ∧ ((r = -1 ∧ ∀ k : Int, 0 ≤ k → k < i → ¬ hitT s a b known k) ∨ ((0 ≤ r ∧ r < i) ∧ hitT s a b known r ∧ ∀ k : Int, r < k → k < i → ¬ hitT s a b known k)), fun _ i => (s.len - i).toNat,
    ⟨⟨Int.le_refl _, s0⟩, .inl ⟨rfl, fun k h0 h1 => by omega⟩⟩, fun r _ i _ hJ => ?_⟩
  obtain ⟨⟨i0, i1⟩, hJ⟩ := hJ
  have ms : i < s.len → (s.len - (i + 1)).toNat < (s.len - i).toNat := fun h => by omega
  refine ⟨fun hi => ⟨i0, hi, fun _ _ _ _ _ => ?_⟩, fun hi => ⟨?_, trivial⟩⟩
  · have nx : Rng .i64 (i + 1) := by rw [rng64]; omega
    have skip : ¬ hitT s a b known i → ((0 ≤ i + 1 ∧ i + 1 ≤ s.len) ∧ ((r = -1 ∧ ∀ k : Int, 0 ≤ k → k < i + 1 → ¬ hitT s a b known k) ∨ ((0 ≤ r ∧ r < i + 1) ∧ hitT s a b known r ∧ ∀ k : Int, r < k → k < i + 1 → ¬ hitT s a b known k))) ∧ (s.len - (i + 1)).toNat < (s.len - i).toNat := fun hn => by
      refine ⟨⟨⟨by omega, by omega⟩, ?_⟩, ms hi⟩
      rcases hJ with ⟨h1, h2⟩ | ⟨h1, h2, h3⟩
      · refine .inl ⟨h1, fun k k0 k1 => ?_⟩
        by_cases h : k < i
        · exact h2 k k0 h
        · have : k = i := by omega
          subst this; exact hn
      · refine .inr ⟨⟨by omega, by omega⟩, h2, fun k k0 k1 => ?_⟩
        by_cases h : k < i
        · exact h3 k k0 h
        · have : k = i := by omega
          subst this; exact hn
    exact ⟨fun h1 => ⟨fun h2 => ⟨fun h3 => ⟨nx, ⟨⟨by omega, by omega⟩, .inr ⟨⟨by omega, by omega⟩, ⟨h1, h2, h3⟩, fun k h0 h1 => by omega⟩⟩, ms hi⟩, fun h3 => ⟨nx, skip fun e => h3 e.2.2⟩⟩, fun h2 => ⟨nx, skip fun e => h2 e.2.1⟩⟩, fun h1 => ⟨nx, skip fun e => h1 e.1⟩⟩
  · have : i = s.len := by omega
    subst this
    exact hJ

theorem kSameRow_ok : V_kSameRow := by
  intro a _ b _ k _ nn nl _ dn dl _ a' _ b' _ k' _ nn' nl' _ dn' dl' _ _
  simp only [Bool.decide_eq_true]
  have no : (¬ (a = a' ∧ b = b' ∧ k = k' ∧ SameF nn nl dn dl nn' nl' dn' dl')) → q_kSameRow a b k nn nl dn dl a' b' k' nn' nl' dn' dl' (decide False) ∧ True := fun h => ⟨⟨fun e => by simp at e, fun e => absurd e h⟩, trivial⟩
  exact ⟨fun h1 => ⟨fun h2 => ⟨fun h3 => ⟨trivial, fun r hr => ⟨⟨fun e => ⟨h1, h2, h3, hr.1 e⟩, fun e => hr.2 e.2.2.2⟩, trivial⟩⟩, fun h3 => no fun e => h3 e.2.2.1⟩, fun h2 => no fun e => h2 e.2.1⟩, fun h1 => no fun e => h1 e.1⟩

theorem kSameRows_ok : V_kSameRows := by
  intro s _ t _ _ sm _
  have hs := small64 sm
  have s0 := len0 s
  simp only [Bool.decide_eq_true]
  have no : ¬ rowsEq s t → q_kSameRows s t (decide False) ∧ True := fun h => ⟨⟨fun e => by simp at e, fun e => absurd e h⟩, trivial⟩
  refine ⟨fun h => no fun e => h e.1, fun hl => ?_⟩
  have hl : s.len = t.len := Classical.not_not.1 hl
  refine ⟨fun i => (0 ≤ i ∧ i ≤ s.len) ∧ ∀ j : Int, 0 ≤ j → j < i → rowEq s j t j, fun i => (s.len - i).toNat, ⟨⟨Int.le_refl _, s0⟩, fun j h0 h1 => by omega⟩, fun i _ hJ _ => ?_⟩
  obtain ⟨⟨i0, i1⟩, hz⟩ := hJ
  refine ⟨fun hi => ⟨i0, hi, i0, by omega, ?_⟩, fun hi => ⟨⟨fun _ => ⟨hl, fun j j0 j1 => hz j j0 (by omega)⟩, fun _ => rfl⟩, trivial⟩⟩
  constructor <;>
  · intro _ _ _ _ _ _ _ _ _ _
    refine ⟨trivial, fun r hr => ⟨fun hn => no fun e => hn (hr.2 (e.2 i i0 hi)), fun hn => ⟨by rw [rng64]; omega, ⟨⟨by omega, by omega⟩, fun j j0 j1 => ?_⟩, by show (s.len - (i + 1)).toNat < (s.len - i).toNat; omega⟩⟩⟩
    by_cases h : j < i
    · exact hz j j0 h
    · have : j = i := by omega
      subst this; exact hr.1 (Classical.not_not.1 hn)

theorem kSameTable_ok : V_kSameTable := by
  intro n two s _ n' two' s' _ _
  simp only [Bool.decide_eq_true]
  have no : ¬ (n = n' ∧ two = two' ∧ rowsEq s s') → q_kSameTable n two s n' two' s' (decide False) ∧ True := fun h => ⟨⟨fun e => by simp at e, fun e => absurd e h⟩, trivial⟩
  exact ⟨fun h1 => ⟨fun h2 => ⟨trivial, fun r hr => ⟨⟨fun e => ⟨h1, Bool.eq_iff_iff.2 h2, hr.1 e⟩, fun e => hr.2 e.2.2⟩, trivial⟩⟩, fun h2 => no fun e => h2 (by rw [e.2.1])⟩, fun h1 => no fun e => h1 e.1⟩

theorem tRow_ok : V_tRow := by
  intro a _ b _ k _ n _ d _ _
  exact ⟨trivial, fun nn nl _ dn dl _ hq => ⟨⟨rfl, rfl, rfl, hq⟩, trivial⟩⟩

theorem tOf_ok : V_tOf := by
  intro a ra b rb x rx k rk two _
  rw [rngu8] at ra rb
  simp only [Bool.decide_eq_true]
  have ta : Int.tmod a 16 = a % 16 := Int.tmod_eq_emod_of_nonneg ra.1
  have tb : Int.tmod b 8 = b % 8 := Int.tmod_eq_emod_of_nonneg rb.1
  rw [ta, tb]
  have body : p_Pool x ∧ ∀ kd : Int, Rng .u8 kd → ∀ (nn : Bool) (nl : Sl), Ranged nl [some .u16] → ∀ (dn : Bool) (dl : Sl), Ranged dl [some .u16] → ∀ i : Int, Rng .i64 i → q_Pool x kd nn nl dn dl i →
      ((two = true → (8 : Int) ≠ 0 ∧ Rng .u8 (b % 8) ∧ Rng .i64 (b % 8 - 2) ∧ q_tOf a b x k two (a % 16 - 4) (b % 8 - 2) k nn nl dn dl ∧ True) ∧ (¬ two = true → q_tOf a b x k two (a % 16 - 4) 0 k nn nl dn dl ∧ True)) :=
    ⟨trivial, fun kd _ nn nl _ dn dl _ i _ hq => ⟨fun ht => ⟨by decide, by rw [rngu8]; omega, by rw [rng64]; omega, ⟨rfl, by rw [if_pos ht], rfl, hq⟩, trivial⟩, fun ht => ⟨⟨rfl, by rw [if_neg ht], rfl, hq⟩, trivial⟩⟩⟩
  exact ⟨by decide, by rw [rngu8]; omega, by rw [rng64]; omega, body, body⟩

theorem tValid_ok : V_tValid := by
  intro n two s _ hn
  simp only [Bool.decide_eq_true]
  have s0 := len0 s
  have rn : Rng .i64 (ylen n) := by
    have h : ylen n ≤ 9223372036854775807 := hn
    have : 0 ≤ ylen n := Int.natCast_nonneg _
    rw [rng64]; omega
  have no : ¬ validT n two s → q_tValid n two s (decide False) ∧ True := fun h => ⟨⟨fun e => by simp at e, fun e => absurd e h⟩, trivial⟩
  refine ⟨rn, fun h => no fun e => by have := e.1.1; omega, fun h1 => ⟨rn, fun h => no fun e => by have := e.1.2; omega, fun h2 _ => ⟨fun h => no fun e => by have := e.2.1; omega, fun h3 _ => ⟨by rw [rng64]; omega, ?_⟩⟩⟩⟩
  refine ⟨fun i => (-1 ≤ i ∧ i < s.len) ∧ ∀ j : Int, i < j → 0 < j → j < s.len → ¬ ltR s j s (j - 1), fun i => i.toNat, ⟨⟨by omega, by omega⟩, fun j h0 _ h1 => by omega⟩, fun i _ hJ => ?_⟩
  obtain ⟨⟨i0, i1⟩, hz⟩ := hJ
  refine ⟨fun hi => ⟨by omega, i1, by rw [rng64]; omega, by omega, by omega, ?_⟩, fun hi _ => ?_⟩
  · constructor <;>
    · intro _ _ _ _ _ _ _ _ _ _
      refine ⟨trivial, fun r _ hr => ?_⟩
      have hr : ordK (s.int i 0) (s.int i 1) (s.int i 2) (s.int (i - 1) 0) (s.int (i - 1) 1) (s.int (i - 1) 2) r := hr
      refine ⟨fun h => no fun e => ?_, fun h => ⟨by rw [rng64]; omega, ⟨⟨by omega, by omega⟩, fun j j0 jp j1 => ?_⟩, by show (i - 1).toNat < i.toNat; omega⟩⟩
      · have g := e.2.2.1 i (by omega) i1
        unfold ltR at g
        rcases hr with ⟨_, k⟩ | ⟨k, _⟩ | ⟨k, _⟩
        · exact g k
        · omega
        · omega
      · by_cases c : i < j
        · exact hz j c jp j1
        · have : j = i := by omega
          subst this
          intro g
          unfold ltR at g
          unfold ordK ltK at hr
          unfold ltK at g
          omega
  · have so : sortedT s := fun j j0 j1 => hz j (by omega) j0 j1
    refine ⟨fun i => (0 ≤ i ∧ i ≤ s.len) ∧ ∀ j : Int, 0 ≤ j → j < i → rightAt two s j, fun i => (s.len - i).toNat, ⟨⟨Int.le_refl _, s0⟩, fun j h0 h1 => by omega⟩, fun i _ hJ => ?_⟩
    obtain ⟨⟨i0, i1⟩, hz⟩ := hJ
    refine ⟨fun hi => ⟨i0, hi, fun _ _ _ _ _ => ⟨trivial, fun r hr => ⟨fun hn => ⟨⟨fun e => absurd i0 (of_decide_eq_true e), fun e => absurd (hr.2 (e.2.2.2 i i0 hi)) hn⟩, trivial⟩, fun hn => ⟨by rw [rng64]; omega, ⟨⟨by omega, by omega⟩, fun j j0 j1 => ?_⟩, by show (s.len - (i + 1)).toNat < (s.len - i).toNat; omega⟩⟩⟩⟩, fun hi => ⟨⟨fun _ => ⟨⟨by omega, by omega⟩, by omega, so, fun j j0 j1 => hz j j0 (by omega)⟩, fun _ => by decide⟩, trivial⟩⟩
    by_cases c : j < i
    · exact hz j j0 c
    · have : j = i := by omega
      subst this; exact hr.1 (Classical.not_not.1 hn)

end Go.Sx.N
