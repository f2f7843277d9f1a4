/-
  What is taken over from the texts of the tables. Conditions: none.
-/
import Derived.Test.YtjljnieafhdkgaaGreatDoorNumVG
set_option linter.unusedVariables false
set_option linter.unusedSimpArgs false
namespace Go.Sx.N

theorem kLimbs_ok : V_kLimbs := by
  intro a b _ c d _ _ sb sd
  have h1 := small64 sb
  have h2 := small64 sd
  have := len0 b
  have := len0 d
  exact ⟨by rw [rng64]; omega, rfl, trivial⟩

theorem cmpI_ok : V_cmpI := by
  intro x _ y _ _
  exact ⟨fun h => absurd rfl h, fun _ => ⟨fun h => absurd rfl h, fun _ => ⟨fun h => ⟨.inl ⟨rfl, h⟩, trivial⟩, fun h => ⟨fun g => ⟨.inr (.inr ⟨rfl, g⟩), trivial⟩, fun g => ⟨.inr (.inl ⟨rfl, by omega⟩), trivial⟩⟩⟩⟩⟩

theorem cmpOr_ok : V_cmpOr := by
  intro s _ _ sm
  have hs := small64 sm
  have s0 := len0 s
  refine ⟨fun i => (0 ≤ i ∧ i ≤ s.len) ∧ ∀ j : Int, 0 ≤ j → j < i → s.int j 0 = 0, fun i => (s.len - i).toNat, ⟨⟨Int.le_refl _, s0⟩, fun j h0 h1 => by omega⟩, fun i _ hJ => ?_⟩
  obtain ⟨⟨i0, i1⟩, hz⟩ := hJ
  refine ⟨fun hi => ⟨i0, hi, fun _ => ⟨fun hn => ⟨.inl ⟨i, i0, hi, rfl, hn, hz⟩, trivial⟩, fun hn => ?_⟩⟩, fun hi => ⟨.inr ⟨rfl, fun j j0 j1 => hz j j0 (by omega)⟩, trivial⟩⟩
  have hn : s.int i 0 = 0 := Classical.not_not.1 hn
  refine ⟨by rw [rng64]; omega, ⟨⟨by omega, by omega⟩, fun j j0 j1 => ?_⟩, by show (s.len - (i + 1)).toNat < (s.len - i).toNat; omega⟩
  by_cases h : j < i
  · exact hz j j0 h
  · have : j = i := by omega
    subst this; exact hn

theorem tCompare_ok : V_tCompare := by
  intro a _ b _ k _ nn nl _ dn dl _ a' _ b' _ k' _ nn' nl' _ dn' dl' _ _
  refine ⟨trivial, fun x _ hx => ⟨trivial, fun y _ hy => ⟨trivial, fun z _ hz => ⟨trivial, fun r _ hr => ⟨?_, trivial⟩⟩⟩⟩⟩
  have hx : (x = -1 ∧ a < a') ∨ (x = 0 ∧ a = a') ∨ (x = 1 ∧ a' < a) := hx
  have hy : (y = -1 ∧ b < b') ∨ (y = 0 ∧ b = b') ∨ (y = 1 ∧ b' < b) := hy
  have hz : (z = -1 ∧ k < k') ∨ (z = 0 ∧ k = k') ∨ (z = 1 ∧ k' < k) := hz
  have l3 : (Sl.lit [[D.int x], [.int y], [.int z]]).len = 3 := rfl
  have v0 : (Sl.lit [[D.int x], [.int y], [.int z]]).int 0 0 = x := rfl
  have v1 : (Sl.lit [[D.int x], [.int y], [.int z]]).int 1 0 = y := rfl
  have v2 : (Sl.lit [[D.int x], [.int y], [.int z]]).int 2 0 = z := rfl
  have : (r = x ∧ x ≠ 0) ∨ (x = 0 ∧ r = y ∧ y ≠ 0) ∨ (x = 0 ∧ y = 0 ∧ r = z) := by
    rcases hr with ⟨i, i0, i1, e, en, h⟩ | ⟨e, h⟩
    · rw [l3] at i1
      rcases (show i = 0 ∨ i = 1 ∨ i = 2 by omega) with rfl | rfl | rfl
      · rw [v0] at e; exact .inl ⟨e, by omega⟩
      · rw [v1] at e
        have := h 0 (by omega) (by omega)
        rw [v0] at this
        exact .inr (.inl ⟨this, e, by omega⟩)
      · rw [v2] at e
        have h0 := h 0 (by omega) (by omega)
        have h1 := h 1 (by omega) (by omega)
        rw [v0] at h0
        rw [v1] at h1
        exact .inr (.inr ⟨h0, h1, e⟩)
    · have h0 := h 0 (by omega) (by rw [l3]; omega)
      have h1 := h 1 (by omega) (by rw [l3]; omega)
      have h2 := h 2 (by omega) (by rw [l3]; omega)
      rw [v0] at h0
      rw [v1] at h1
      rw [v2] at h2
      exact .inr (.inr ⟨h0, h1, by omega⟩)
  show ordK a b k a' b' k' r
  unfold ordK ltK
  omega

theorem copied_ok : V_copied := by
  intro a b _ c d _ hp
  exact ⟨hp.1, fun b' _ hb => ⟨hp.2, fun d' _ hd => ⟨⟨⟨rfl, hb⟩, rfl, hd⟩, trivial⟩⟩⟩

theorem Right_ok : V_Right := by
  intro two a _ b _ k _ nn nl _ dn dl _ _
  simp only [Bool.decide_eq_true]
  refine ⟨fun i => (0 ≤ i ∧ i ≤ 2) ∧ (0 < i → -2147483648 ≤ a ∧ a ≤ 2147483647) ∧ (1 < i → -2147483648 ≤ b ∧ b ≤ 2147483647), fun i => (2 - i).toNat, ⟨⟨by omega, by omega⟩, fun h => by omega, fun h => by omega⟩, fun i _ hJ => ?_⟩
  obtain ⟨⟨i0, i1⟩, ha, hb⟩ := hJ
  have no : ∀ {p : Prop}, (rightS two a b k nn nl dn dl → False) → q_Right two a b k nn nl dn dl (decide False) ∧ True := fun h => ⟨⟨fun e => by simp at e, fun e => absurd e h⟩, trivial⟩
  refine ⟨fun hi => ⟨i0, hi, fun e0 => ⟨fun h => no (p := True) fun e => by have := e.1; omega, fun h => ⟨fun g => no (p := True) fun e => by have := e.1; omega, fun g => ⟨by rw [rng64]; omega, ⟨⟨by omega, by omega⟩, fun _ => by omega, fun h => by omega⟩, by show (2 - (i + 1)).toNat < (2 - i).toNat; omega⟩⟩⟩,
    fun e0 => ⟨fun h => no (p := True) fun e => by have := e.2.1; omega, fun h => ⟨fun g => no (p := True) fun e => by have := e.2.1; omega, fun g => ⟨by rw [rng64]; omega, ⟨⟨by omega, by omega⟩, fun _ => ha (by omega), fun h => by omega⟩, by show (2 - (i + 1)).toNat < (2 - i).toNat; omega⟩⟩⟩⟩, fun hi => ?_⟩
  have ha := ha (by omega)
  have hb := hb (by omega)
  have core : (two = true ∨ b = 0) → ((0 ≤ k → (k < 65536 → p_fValid nn nl dn dl ∧ ∀ r : Bool, q_fValid nn nl dn dl r → q_Right two a b k nn nl dn dl r ∧ True) ∧ (¬ k < 65536 → q_Right two a b k nn nl dn dl (decide False) ∧ True)) ∧ (¬ 0 ≤ k → q_Right two a b k nn nl dn dl (decide False) ∧ True)) := fun ht =>
    ⟨fun h0 => ⟨fun h1 => ⟨trivial, fun r hr => ⟨⟨fun e => ⟨ha, hb, ht, ⟨h0, h1⟩, hr.1 e⟩, fun e => hr.2 e.2.2.2.2⟩, trivial⟩⟩, fun h1 => no (p := True) fun e => by have := e.2.2.2.1; omega⟩, fun h0 => no (p := True) fun e => by have := e.2.2.2.1; omega⟩
  exact ⟨fun ht => core (.inl ht), fun ht => ⟨fun hb0 => core (.inr hb0), fun hb0 => no (p := True) fun e => by rcases e.2.2.1 with h | h; exact ht h; exact hb0 h⟩⟩

theorem tValid_ok : V_tValid := by
  intro n two s _ hn
  simp only [Bool.decide_eq_true]
  have s0 := len0 s
  have rn : Rng .i64 (ylen n) := by
    have h : ylen n ≤ 9223372036854775807 := hn
    have : 0 ≤ ylen n := Int.natCast_nonneg _
    rw [rng64]; omega
  have no : ¬ validT n two s → q_tValid n two s (decide False) ∧ True := fun h => ⟨⟨fun e => by simp at e, fun e => absurd e h⟩, trivial⟩
  refine ⟨rn, fun h => no fun e => by have := e.1.1; omega, fun h1 => ⟨rn, fun h => no fun e => by have := e.1.2; omega, fun h2 _ => ⟨fun h => no fun e => by have := e.2.1; omega, fun h3 _ => ⟨by rw [rng64]; omega, ?_⟩⟩⟩⟩
  refine ⟨fun i => (-1 ≤ i ∧ i < s.len) ∧ ∀ j : Int, i < j → 0 < j → j < s.len → ¬ ltR s j s (j - 1), fun i => i.toNat, ⟨⟨by omega, by omega⟩, fun j h0 _ h1 => by omega⟩, fun i _ hJ => ?_⟩
  obtain ⟨⟨i0, i1⟩, hz⟩ := hJ
  refine ⟨fun hi => ⟨by omega, i1, by rw [rng64]; omega, by omega, by omega, ?_⟩, fun hi _ => ?_⟩
  · constructor <;>
    · intro _ _ _ _ _ _ _ _ _ _
      refine ⟨trivial, fun r _ hr => ?_⟩
      have hr : ordK (s.int i 0) (s.int i 1) (s.int i 2) (s.int (i - 1) 0) (s.int (i - 1) 1) (s.int (i - 1) 2) r := hr
      refine ⟨fun h => no fun e => ?_, fun h => ⟨by rw [rng64]; omega, ⟨⟨by omega, by omega⟩, fun j j0 jp j1 => ?_⟩, by show (i - 1).toNat < i.toNat; omega⟩⟩
      · have g := e.2.2.1 i (by omega) i1
        unfold ltR at g
        rcases hr with ⟨_, k⟩ | ⟨k, _⟩ | ⟨k, _⟩
        · exact g k
        · omega
        · omega
      · by_cases c : i < j
        · exact hz j c jp j1
        · have : j = i := by omega
          subst this
          intro g
          unfold ltR at g
          unfold ordK ltK at hr
          unfold ltK at g
          omega
  · have so : sortedT s := fun j j0 j1 => hz j (by omega) j0 j1
    refine ⟨fun i => (0 ≤ i ∧ i ≤ s.len) ∧ ∀ j : Int, 0 ≤ j → j < i → rightAt two s j, fun i => (s.len - i).toNat, ⟨⟨Int.le_refl _, s0⟩, fun j h0 h1 => by omega⟩, fun i _ hJ => ?_⟩
    obtain ⟨⟨i0, i1⟩, hz⟩ := hJ
    refine ⟨fun hi => ⟨i0, hi, fun _ _ _ _ _ => ⟨trivial, fun r hr => ⟨fun hn => ⟨⟨fun e => absurd i0 (of_decide_eq_true e), fun e => absurd (hr.2 (e.2.2.2 i i0 hi)) hn⟩, trivial⟩, fun hn => ⟨by rw [rng64]; omega, ⟨⟨by omega, by omega⟩, fun j j0 j1 => ?_⟩, by show (s.len - (i + 1)).toNat < (s.len - i).toNat; omega⟩⟩⟩⟩, fun hi => ⟨⟨fun _ => ⟨⟨by omega, by omega⟩, by omega, so, fun j j0 j1 => hz j j0 (by omega)⟩, fun _ => by decide⟩, trivial⟩⟩
    by_cases c : j < i
    · exact hz j j0 c
    · have : j = i := by omega
      subst this; exact hr.1 (Classical.not_not.1 hn)

end Go.Sx.N
