/-
  The conditions of Concat and Post. Conditions: none.
-/
import Derived.Test.YtlhjljekeobplaaLedPB
namespace Go.Sx.L

theorem int_part0 {s : Sl} : (Sl.part s 0 0).len = 0 := rfl

theorem Concat_ok : V_Concat := by
  intro s ⟨h2, ha, hb⟩ _
  have rs := rsL
  obtain ⟨a, hA⟩ : ∃ a, a = s.sub 0 0 := ⟨_, rfl⟩
  obtain ⟨b, hB⟩ : ∃ b, b = s.sub 1 0 := ⟨_, rfl⟩
  rw [← hA] at ha
  rw [← hB] at hb
  have ha0 := len0 a
  have hb0 := len0 b
  have two : ∀ i : Int, 0 ≤ i → i < s.len → (i = 0 ∧ s.sub i 0 = a) ∨ (i = 1 ∧ s.sub i 0 = b) := fun i h0 h1 => by
    have : i = 0 ∨ i = 1 := by omega
    rcases this with rfl | rfl
    · exact .inl ⟨rfl, hA.symm⟩
    · exact .inr ⟨rfl, hB.symm⟩
  -- the second loop
  have second : ∀ z : Sl, z.len = 0 → ∃ (J : Sl → Int → Prop) (M : Sl → Int → Nat), J z 0 ∧ ∀ (t : Sl) (i : Int), Rng .i64 i → J t i →
      (i < s.len → (0 : Int) ≤ i ∧ i < s.len ∧ (t.len + (s.sub i 0).len) * 32 ≤ 140737488355328 ∧ Rng .i64 (i + 1) ∧ (J (Sl.app t (s.sub i 0)) (i + 1) ∧ M (Sl.app t (s.sub i 0)) (i + 1) < M t i)) ∧ (¬ i < s.len → q_Concat s t ∧ True) := by
    intro z hz
    refine ⟨fun t i => 0 ≤ i ∧ i ≤ 2 ∧ (i = 0 → t.len = 0) ∧ (i = 1 → eqPosts t a) ∧ (i = 2 → behind a b t), fun _ i => (2 - i).toNat, ⟨Int.le_refl _, by omega, fun _ => hz, fun h => absurd h (by omega), fun h => absurd h (by omega)⟩, fun t i _ ⟨h0, h1, g0, g1, g2⟩ => ⟨fun hlt => ?_, fun hge => ⟨?_, trivial⟩⟩⟩
    · rcases two i h0 hlt with ⟨rfl, e⟩ | ⟨rfl, e⟩
      · rw [e]
        have ht := g0 rfl
        refine ⟨h0, hlt, by omega, rs _ (by omega), ⟨by omega, by omega, fun h => absurd h (by omega), fun _ => ⟨by rw [len_app]; omega, fun k k0 k1 => ?_⟩, fun h => absurd h (by omega)⟩, (by show (2 - ((0 : Int) + 1)).toNat < (2 - (0 : Int)).toNat; omega)⟩
        have e1 : k - t.len = k := by omega
        unfold eqAt
        rw [int_app_ge (by omega), int_app_ge (by omega), int_app_ge (by omega), int_app_ge (by omega), e1]
        exact ⟨rfl, rfl, rfl, rfl⟩
      · rw [e]
        obtain ⟨hl, ht⟩ := g1 rfl
        refine ⟨h0, hlt, by omega, rs _ (by omega), ⟨by omega, by omega, fun h => absurd h (by omega), fun h => absurd h (by omega), fun _ => ⟨by rw [len_app]; omega, fun k k0 k1 => ?_, fun k k0 k1 => ?_⟩⟩, (by show (2 - ((1 : Int) + 1)).toNat < (2 - (1 : Int)).toNat; omega)⟩
        · have := ht k k0 (by omega)
          unfold eqAt at this ⊢
          rw [int_app_lt k0 (by omega), int_app_lt k0 (by omega), int_app_lt k0 (by omega), int_app_lt k0 (by omega)]
          exact this
        · have e1 : a.len + k - t.len = k := by omega
          unfold eqAt
          rw [int_app_ge (by omega), int_app_ge (by omega), int_app_ge (by omega), int_app_ge (by omega), e1]
          exact ⟨rfl, rfl, rfl, rfl⟩
    · have : i = 2 := by omega
      show behind (s.sub 0 0) (s.sub 1 0) t
      rw [← hA, ← hB]
      exact g2 this
  refine ⟨fun x i => 0 ≤ i ∧ i ≤ 2 ∧ 0 ≤ x ∧ x ≤ 1000000 * i, fun _ i => (2 - i).toNat, ⟨Int.le_refl _, by omega, Int.le_refl _, by omega⟩, fun x _ i _ ⟨h0, h1, hx0, hx1⟩ => ⟨fun hlt => ⟨h0, hlt, fun _ => ?_⟩, fun hge => ⟨fun h => absurd h (by omega), fun _ => ?_⟩⟩⟩
  · have hl : 0 ≤ (s.sub i 0).len ∧ (s.sub i 0).len ≤ 1000000 := by
      rcases two i h0 hlt with ⟨_, e⟩ | ⟨_, e⟩ <;> rw [e] <;> exact ⟨by assumption, by assumption⟩
    refine ⟨rs _ (by omega), fun h => absurd h (by omega), fun _ => ⟨rs _ (by omega), ⟨by omega, by omega, by omega, by omega⟩, ?_⟩⟩
    show (2 - (i + 1)).toNat < (2 - i).toNat; omega
  · refine ⟨rs _ (by omega), rs _ (by omega), fun hpos => ⟨by omega, by omega, by omega, by omega, by omega, by omega, by omega, ?_, fun _ => second _ rfl⟩, fun _ _ => second _ rfl⟩
    show (0 : Int) ≤ ((_ : Nat) : Int)
    exact Int.natCast_nonneg _

theorem lit_sub0 (p q : Sl) : (Sl.lit [[(Sl.d p)], [(Sl.d q)]]).sub 0 0 = p := rfl
theorem lit_sub1 (p q : Sl) : (Sl.lit [[(Sl.d p)], [(Sl.d q)]]).sub 1 0 = q := rfl

theorem Post_ok : V_Post := by
  intro st _ d p q hq
  have rs := rsL
  have hd0 := len0 d
  have hp0 := len0 p
  have hq0 := len0 q
  have hq : q.len ≤ 1000000 := hq
  have bad : ¬ postOk st d p q → q_Post st d p q 0 Sl.nil Sl.nil 2 ∧ True := fun h => ⟨⟨fun _ => ⟨rfl, rfl, rfl, rfl⟩, fun g => absurd g h⟩, trivial⟩
  have hc : ∀ (P' : Prop), p.len ≤ 4000 → (P' → True) → p_Concat (Sl.lit [[(Sl.d p)], [(Sl.d q)]]) := fun _ h _ => ⟨rfl, by rw [lit_sub0]; omega, by rw [lit_sub1]; exact hq⟩
  have tail : postOk st d p q → p.len + q.len ≤ 4000 → ∀ (d' : Sl), eqDue d' d → p_Concat (Sl.lit [[(Sl.d p)], [(Sl.d q)]]) ∧ ∀ s7 : Sl, q_Concat (Sl.lit [[(Sl.d p)], [(Sl.d q)]]) s7 → q_Post st d p q st d' s7 0 ∧ True := fun h1 h2 d' hd' => by
    refine ⟨⟨rfl, by rw [lit_sub0]; omega, by rw [lit_sub1]; exact hq⟩, fun s hs => ⟨⟨fun h => absurd h1 h, fun _ => ⟨fun h => absurd h2 (by omega), fun _ => ⟨rfl, rfl, hd', ?_⟩⟩⟩, trivial⟩⟩
    have hs : behind ((Sl.lit [[(Sl.d p)], [(Sl.d q)]]).sub 0 0) ((Sl.lit [[(Sl.d p)], [(Sl.d q)]]).sub 1 0) s := hs
    rw [lit_sub0, lit_sub1] at hs
    exact hs
  have e0 : (Sl.lit []).len = 0 := rfl
  have whole : postOk st d p q → p.len + q.len ≤ 4000 → ∀ b6 : Bool, ((b6 = true → d.len ≤ 0 → p_Concat (Sl.lit [[(Sl.d p)], [(Sl.d q)]]) ∧ ∀ s7 : Sl, q_Concat (Sl.lit [[(Sl.d p)], [(Sl.d q)]]) s7 → q_Post st d p q st Sl.nil s7 0 ∧ True) ∧
      (¬ b6 = true → (Sl.len (Sl.lit []) + d.len) * 8 ≤ 140737488355328 ∧ p_Concat (Sl.lit [[(Sl.d p)], [(Sl.d q)]]) ∧ ∀ s7 : Sl, q_Concat (Sl.lit [[(Sl.d p)], [(Sl.d q)]]) s7 → q_Post st d p q st (Sl.app (Sl.lit []) d) s7 0 ∧ True)) := fun h1 h2 b6 =>
    ⟨fun _ hz => tail h1 h2 _ (eqDue_nil hz), fun _ => ⟨by have := h1.1.1; omega, tail h1 h2 _ (eqDue_nilapp d)⟩⟩
  have main : ∀ day : Int, day = lastDay p → validS st d p → p_follow st d p q day ∧ ∀ b5 : Bool, q_follow st d p q day (decide (b5 = true)) → (¬ b5 = true → q_Post st d p q 0 Sl.nil Sl.nil 2 ∧ True) ∧ (¬ ¬ b5 = true → Small p → Small q → Rng .i64 (p.len + q.len) ∧ (p.len + q.len > 4000 → q_Post st d p q 0 Sl.nil Sl.nil 5 ∧ True) ∧ (¬ p.len + q.len > 4000 → (postOk st d p q ∧ p.len + q.len ≤ 4000))) := fun day hday hv => by
    refine ⟨⟨hv.1.1, hv.1.2.1, hv.1.2.2.1⟩, fun b5 hb => ?_⟩
    have hp4 := hv.2.2.1
    have hb : b5 = true ↔ followS st d.len q day := by simpa [q_follow] using hb
    refine ⟨fun hn => bad fun h => hn (hb.2 (by rw [hday]; exact h.2)), fun hn _ _ => ?_⟩
    have hok : postOk st d p q := ⟨hv, by rw [← hday]; exact hb.1 (by simpa using hn)⟩
    refine ⟨rs _ (by omega), fun hgt => ⟨⟨fun h => absurd hok h, fun _ => ⟨fun _ => ⟨rfl, rfl, rfl, rfl⟩, fun h => absurd h (by omega)⟩⟩, trivial⟩, fun hle => ⟨hok, by omega⟩⟩
  refine ⟨trivial, fun b4 hb4 => ?_⟩
  have hb4 : b4 = true ↔ validS st d p := by simpa [q_Valid] using hb4
  refine ⟨fun hn => bad fun h => hn (hb4.2 h.1), fun hn => ?_⟩
  have hv : validS st d p := hb4.1 (by simpa using hn)
  have hp4 := hv.2.2.1
  refine fun _ => ⟨fun hpos => ⟨rs _ (by omega), by omega, by omega, fun _ => ?_⟩, fun hpos => ?_⟩
  · obtain ⟨m1, m2⟩ := main (p.int (p.len - 1) 0) (by unfold lastDay; rw [if_pos hpos]) hv
    refine ⟨m1, fun b5 hb5 => ?_⟩
    obtain ⟨m3, m4⟩ := m2 b5 hb5
    refine ⟨m3, fun hn5 s1 s2 => ?_⟩
    obtain ⟨m5, m6, m7⟩ := m4 hn5 s1 s2
    exact ⟨m5, m6, fun hle => ⟨whole (m7 hle).1 (m7 hle).2, whole (m7 hle).1 (m7 hle).2⟩⟩
  · obtain ⟨m1, m2⟩ := main 0 (by unfold lastDay; rw [if_neg hpos]) hv
    refine ⟨m1, fun b5 hb5 => ?_⟩
    obtain ⟨m3, m4⟩ := m2 b5 hb5
    refine ⟨m3, fun hn5 s1 s2 => ?_⟩
    obtain ⟨m5, m6, m7⟩ := m4 hn5 s1 s2
    exact ⟨m5, m6, fun hle => ⟨whole (m7 hle).1 (m7 hle).2, whole (m7 hle).1 (m7 hle).2⟩⟩

end Go.Sx.L
