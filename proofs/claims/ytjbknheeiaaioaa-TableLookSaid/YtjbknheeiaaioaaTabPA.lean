/-
  The law TableLook: its condition. Conditions: none.
-/
import Derived.Test.YtjbknheeiaaioaaNumVTLook
import Derived.Test.YtjbknheeiaaioaaTabFe
set_option linter.unusedVariables false
set_option linter.unusedSimpArgs false
namespace Go.Sx.N

theorem imin_le (x y : Int) : imin x y ≤ x ∧ imin x y ≤ y := by unfold imin; split <;> omega
theorem imin_or (x y : Int) : imin x y = x ∨ imin x y = y := by unfold imin; split <;> omega

theorem TLook_ok : V_TLook := by
  intro s rs a ra b rb known rk _
  simp only [Bool.decide_eq_true]
  refine ⟨trivial, fun w hw => ⟨fun h => absurd hw h, fun _ => ⟨trivial, fun y1 two1 t rt hB1 => ⟨trivial, fun y2 two2 u ru hB2 => ?_⟩⟩⟩⟩
  have v1 := built_valid hB1
  have v2 := built_valid hB2
  have n1 := built_name hB1
  have n2 := built_name hB2
  have b1 := hB1.2.2.2.2.1
  have b2 := hB2.2.2.2.2.1
  obtain rfl : two1 = false := hB1.2.1
  obtain rfl : two2 = true := hB2.2.1
  refine ⟨n1, fun xa xb rxb xc xd rxd xe rxe hq1 => ⟨n2, fun za zb rzb zc zd rzd ze rze hq2 => ?_⟩⟩
  have ok1 := And.intro v1 (rfl : false = false)
  have ok2 := And.intro v2 (rfl : true = true)
  rw [rng64] at ra rb
  have m1 := imin_le a 11
  have m2 := imin_or a 11
  have mr : -9223372036854775808 ≤ imin a 11 ∧ imin a 11 ≤ 11 := by omega
  have K1 : ∀ j, inForce t known j → s.len = s.len ∧ (-4 ≤ t.int j 0 ∧ t.int j 0 ≤ 11) ∧ t.int j 1 = 0 := fun j hj => by
    have q := b1 j hj.1.1 hj.1.2
    refine ⟨rfl, q.1, ?_⟩
    have := q.2.2.1
    simpa using this
  have K2 : ∀ j, inForce u known j → (-4 ≤ u.int j 0 ∧ u.int j 0 ≤ 11) ∧ (-2 ≤ u.int j 1 ∧ u.int j 1 ≤ 5) := fun j hj => by
    have q := b2 j hj.1.1 hj.1.2
    exact ⟨q.1, q.2.1⟩
  -- the look-up by two keys
  have fin : ∀ at_ : Int, ((0 ≤ at_ → candT u a b known at_) ∧ (at_ < 0 → ∀ k, ¬ candT u a b known k)) → V_TLook_0 s a b known u za zb zc zd at_ := fun at_ h => by
    unfold V_TLook_0
    simp only [Bool.decide_eq_true]
    refine ⟨fun _ => ⟨rfl, trivial⟩, fun hn => ?_⟩
    have c := h.1 (by omega)
    have r := look_at hq2 ok2 c
    refine ⟨by omega, c.1.1.1.1.1.2, fun _ _ => ⟨trivial, fun w hw => ⟨hw.2 (SameF.symm r.1), trivial⟩⟩⟩
  have two : V_TLook_1 s a b known y2 true u za zb zc zd ze := by
    unfold V_TLook_1
    simp only [Bool.decide_eq_true]
    refine ⟨fun k => k ≤ imin a 11 ∧ -5 ≤ imax k (-5) ∧ ∀ j, inForce u known j → u.int j 0 ≤ a → u.int j 0 ≤ k, fun k => (k + 5).toNat, ⟨Int.le_refl _, by unfold imax; split <;> omega, fun j hj h => ?_⟩, fun k rk' hJ => ?_⟩
    · have := (K2 j hj).1; omega
    obtain ⟨hk, _, hn⟩ := hJ
    refine ⟨fun hk4 => ?_, fun hk4 => ?_⟩
    · refine ⟨fun some at_ m => (m ≤ 5 ∧ -3 ≤ m) ∧ (some = true ↔ ∃ j, inForce u known j ∧ u.int j 0 = k ∧ m < u.int j 1) ∧ ((at_ = -1 ∧ ∀ j, inForce u known j → u.int j 0 = k → m < u.int j 1 → b < u.int j 1) ∨
          (0 ≤ at_ ∧ (inForce u known at_ ∧ u.int at_ 0 = k ∧ u.int at_ 1 ≤ b ∧ m < u.int at_ 1) ∧ ∀ j, inForce u known j → u.int j 0 = k → u.int j 1 ≤ b → u.int j 1 ≤ u.int at_ 1)), fun _ _ m => (m + 3).toNat, ?_, fun some at_ rat m rm hJ => ?_⟩
      · refine ⟨⟨by omega, by omega⟩, ?_, .inl ⟨rfl, fun j hj _ h => by have := (K2 j hj).2; omega⟩⟩
        constructor
        · intro h; simp at h
        · rintro ⟨j, hj, _, h⟩; have := (K2 j hj).2; omega
      · obtain ⟨hm, hsome, hat⟩ := hJ
        refine ⟨fun hm2 => ⟨trivial, fun n rn hh => ?_⟩, fun hm2 => ?_⟩
        · have nx : Rng .i64 (m - 1) := by rw [rng64]; omega
          have ms : (m - 1 + 3).toNat < (m + 3).toNat := by omega
          -- what some becomes
          have sm : ∀ some' : Bool, (some' = true ↔ some = true ∨ n ≥ 0) → (some' = true ↔ ∃ j, inForce u known j ∧ u.int j 0 = k ∧ m - 1 < u.int j 1) := fun some' e => by
            rw [e, hsome]
            constructor
            · rintro (⟨j, h1, h2, h3⟩ | h)
              · exact ⟨j, h1, h2, by omega⟩
              · obtain ⟨h1, h2, h3⟩ := holds_some hh h
                exact ⟨n, h1, h2, by omega⟩
            · rintro ⟨j, h1, h2, h3⟩
              by_cases c : m < u.int j 1
              · exact .inl ⟨j, h1, h2, c⟩
              · refine .inr ?_
                rcases Int.lt_or_le n 0 with d | d
                · exact absurd ⟨h2, by omega⟩ ((holds_none hh d).2 j h1)
                · exact d
          -- what at becomes where it is asked for
          have a1 : at_ < 0 → m ≤ b → ((n = -1 ∧ ∀ j, inForce u known j → u.int j 0 = k → m - 1 < u.int j 1 → b < u.int j 1) ∨ (0 ≤ n ∧ (inForce u known n ∧ u.int n 0 = k ∧ u.int n 1 ≤ b ∧ m - 1 < u.int n 1) ∧ ∀ j, inForce u known j → u.int j 0 = k → u.int j 1 ≤ b → u.int j 1 ≤ u.int n 1)) := fun h0 hb => by
            have old : ∀ j, inForce u known j → u.int j 0 = k → m < u.int j 1 → b < u.int j 1 := by
              rcases hat with ⟨_, h⟩ | ⟨h, _⟩
              · exact h
              · omega
            rcases Int.lt_or_le n 0 with d | d
            · obtain ⟨e, h⟩ := holds_none hh d
              refine .inl ⟨e, fun j h1 h2 h3 => ?_⟩
              by_cases c : m < u.int j 1
              · exact old j h1 h2 c
              · exact absurd ⟨h2, by omega⟩ (h j h1)
            · obtain ⟨h1, h2, h3⟩ := holds_some hh d
              refine .inr ⟨d, ⟨h1, h2, by omega, by omega⟩, fun j g1 g2 g3 => ?_⟩
              by_cases c : m < u.int j 1
              · have := old j g1 g2 c; omega
              · omega
          have a2 : ¬ (at_ < 0 ∧ m ≤ b) → ((at_ = -1 ∧ ∀ j, inForce u known j → u.int j 0 = k → m - 1 < u.int j 1 → b < u.int j 1) ∨ (0 ≤ at_ ∧ (inForce u known at_ ∧ u.int at_ 0 = k ∧ u.int at_ 1 ≤ b ∧ m - 1 < u.int at_ 1) ∧ ∀ j, inForce u known j → u.int j 0 = k → u.int j 1 ≤ b → u.int j 1 ≤ u.int at_ 1)) := fun h0 => by
            rcases hat with ⟨e, h⟩ | ⟨e, h1, h2⟩
            · refine .inl ⟨e, fun j g1 g2 g3 => ?_⟩
              by_cases c : m < u.int j 1
              · exact h j g1 g2 c
              · have : b < m := by omega
                omega
            · exact .inr ⟨e, ⟨h1.1, h1.2.1, h1.2.2.1, by omega⟩, h2⟩
          refine ⟨fun hs => ?_, fun hs => ?_⟩
          · have S := sm true (by simp [hs])
            exact ⟨fun h0 => ⟨fun hb => ⟨nx, ⟨⟨by omega, by omega⟩, by simpa using S, a1 h0 hb⟩, ms⟩, fun hb => ⟨nx, ⟨⟨by omega, by omega⟩, by simpa using S, a2 fun h => hb h.2⟩, ms⟩⟩, fun h0 => ⟨nx, ⟨⟨by omega, by omega⟩, by simpa using S, a2 fun h => h0 h.1⟩, ms⟩⟩
          · have S := sm (decide (n ≥ 0)) (by simp [hs])
            exact ⟨fun h0 => ⟨fun hb => ⟨nx, ⟨⟨by omega, by omega⟩, S, a1 h0 hb⟩, ms⟩, fun hb => ⟨nx, ⟨⟨by omega, by omega⟩, S, a2 fun h => hb h.2⟩, ms⟩⟩, fun h0 => ⟨nx, ⟨⟨by omega, by omega⟩, S, a2 fun h => h0 h.1⟩, ms⟩⟩
        · have em : m = -3 := by omega
          refine ⟨fun hs => ?_, fun hs => ⟨by rw [rng64]; omega, ⟨by omega, by unfold imax; split <;> omega, fun j hj h => ?_⟩, by show (k - 1 + 5).toNat < (k + 5).toNat; omega⟩⟩
          · obtain ⟨r, r1, r2, _⟩ := hsome.1 hs
            have cx := cand_of (a := a) r1 r2 (by omega) hn
            have C : (0 ≤ at_ → candT u a b known at_) ∧ (at_ < 0 → ∀ k, ¬ candT u a b known k) := by
              constructor
              · intro h0
                rcases hat with ⟨e, _⟩ | ⟨_, h1, h2⟩
                · omega
                · exact ⟨⟨(cx _).2 ⟨h1.1, h1.2.1⟩, h1.2.2.1⟩, fun j hj hjb => by obtain ⟨g1, g2⟩ := (cx j).1 hj; exact h2 j g1 g2 hjb⟩
              · intro h0 j hj
                rcases hat with ⟨_, h⟩ | ⟨e, _⟩
                · obtain ⟨g1, g2⟩ := (cx j).1 hj.1.1
                  have := h j g1 g2 (by have := (K2 j g1).2; omega)
                  have := hj.1.2
                  omega
                · omega
            have F := fin at_ C
            have E : (ze = 0 ↔ at_ ≥ 0) ∧ (at_ < 0 → ze = 6) := by
              rcases Int.lt_or_le at_ 0 with d | d
              · have := (look_no hq2 ok2 (C.2 d)).2
                omega
              · have := (look_at hq2 ok2 (C.1 d)).2
                omega
            exact ⟨fun _ => ⟨fun _ => F, fun h => ⟨fun _ => F, fun h6 => absurd (E.2 (by omega)) h6⟩⟩, fun h => absurd E.1 h⟩
          · have h1 := hn j hj h
            have h2 : u.int j 0 ≠ k := fun e => hs (hsome.2 ⟨j, hj, e, by have := (K2 j hj).2; omega⟩)
            omega
    · have none : ∀ j, ¬ candT u a b known j := fun j hj => by
        have := hn j hj.1.1.1.1 hj.1.1.1.2
        have := (K2 j hj.1.1.1.1).1
        omega
      obtain ⟨z, e6⟩ := look_no hq2 ok2 none
      refine ⟨fun _ => ⟨trivial, fun l rl hl => ⟨?_, trivial⟩⟩, fun h => absurd e6 h⟩
      have hl : l = zb.len + zd.len := hl
      have z1 := z.2.1
      have z2 := z.2.2.2
      exact decide_eq_true (by omega)
  -- the look-up by one key
  have three : ∀ at_ : Int, ((0 ≤ at_ → candX t a known at_) ∧ (at_ < 0 → ∀ k, ¬ candX t a known k)) → V_TLook_3 s a b known t y2 true u xa xb xc xd xe za zb zc zd ze at_ := fun at_ C => by
    unfold V_TLook_3
    have E : (xe = 0 ↔ at_ ≥ 0) ∧ (at_ < 0 → xe = 6) := by
      rcases Int.lt_or_le at_ 0 with d | d
      · have := (look_no hq1 ok1 (C.2 d)).2
        omega
      · have := (look_at hq1 ok1 (C.1 d)).2
        omega
    have T2 : V_TLook_2 s a b known t y2 true u xa xb xc xd za zb zc zd ze at_ := by
      unfold V_TLook_2
      simp only [Bool.decide_eq_true]
      refine ⟨fun h0 => ?_, fun _ => two⟩
      have c := C.1 h0
      have r := look_at hq1 ok1 c
      exact ⟨h0, c.1.1.1.2, fun _ _ => ⟨trivial, fun w hw => ⟨fun h => absurd (hw.2 (SameF.symm r.1)) h, fun _ => two⟩⟩⟩
    exact ⟨fun h => absurd E.1 h, fun _ => ⟨fun h0 => ⟨fun h => absurd (E.2 h0) h, fun _ => T2⟩, fun _ => T2⟩⟩
  refine ⟨fun at_ k => k ≤ imin a 11 ∧ ((at_ = -1 ∧ ∀ j, inForce t known j → t.int j 0 ≤ a → t.int j 0 ≤ k) ∨ (0 ≤ at_ ∧ candX t a known at_)), fun _ k => (k + 5).toNat, ⟨Int.le_refl _, .inl ⟨rfl, fun j hj h => ?_⟩⟩, fun at_ rat k rk' hJ => ?_⟩
  · have := (K1 j hj).2.1; omega
  obtain ⟨hk, hat⟩ := hJ
  have out : (0 ≤ at_ ∨ k < -4) → (0 ≤ at_ → candX t a known at_) ∧ (at_ < 0 → ∀ k, ¬ candX t a known k) := fun h => by
    rcases hat with ⟨e, g⟩ | ⟨e, g⟩
    · refine ⟨fun h => by omega, fun _ j hj => ?_⟩
      have := g j hj.1.1 hj.1.2
      have := (K1 j hj.1.1).2.1
      omega
    · exact ⟨fun _ => g, fun h => by omega⟩
  refine ⟨fun hk4 => ⟨fun h0 => ⟨trivial, fun n rn hh => ⟨by rw [rng64]; omega, ⟨by omega, ?_⟩, by show (k - 1 + 5).toNat < (k + 5).toNat; omega⟩⟩, fun h0 => three at_ (out (.inl (by omega)))⟩, fun hk4 => three at_ (out (.inr (by omega)))⟩
  have old : ∀ j, inForce t known j → t.int j 0 ≤ a → t.int j 0 ≤ k := by
    rcases hat with ⟨_, h⟩ | ⟨h, _⟩
    · exact h
    · omega
  rcases Int.lt_or_le n 0 with d | d
  · obtain ⟨e, h⟩ := holds_none hh d
    refine .inl ⟨e, fun j g1 g2 => ?_⟩
    have h1 := old j g1 g2
    have h2 : t.int j 0 ≠ k := fun e => h j g1 ⟨e, (K1 j g1).2.2⟩
    omega
  · obtain ⟨h1, h2, h3⟩ := holds_some hh d
    refine .inr ⟨d, ⟨h1, by omega⟩, fun j g1 g2 => ?_⟩
    have := old j g1 g2
    omega

end Go.Sx.N
