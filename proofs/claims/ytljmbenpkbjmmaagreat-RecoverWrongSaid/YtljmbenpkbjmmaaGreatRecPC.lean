/-
  The condition of RecoverWrong. Conditions: none.
-/
import Derived.Test.YtljmbenpkbjmmaaGreatNumVWrong
import Derived.Test.YtljmbenpkbjmmaaGreatRecM
set_option linter.unusedVariables false
set_option linter.unusedSimpArgs false
namespace Go.Sx.N

theorem zero_share : ¬ okShare (decide False) Sl.nil (decide False) Sl.nil := fun h => by
  obtain ⟨q, hq⟩ := h.1.1
  have := hq.2.2.2.2
  have z : vl Sl.nil = 0 := rfl
  have := q.den_pos
  omega

theorem Wrong_ok : V_Wrong := by
  intro st _ d _ p _ x rx _
  rw [rng64] at rx
  simp only [Bool.decide_eq_true]
  have aw : p_awake ∧ ∀ b : Bool, q_awake b → q_Wrong st d p x b ∧ True := ⟨trivial, fun b hb => ⟨hb, trivial⟩⟩
  refine ⟨trivial, fun b4 _ => ⟨fun _ => aw, fun _ => ⟨trivial, fun b5 h5 => ⟨fun _ => aw, fun hv5 _ => ⟨fun _ => aw, fun hlen => ⟨trivial, fun a1 s1 _ c1 f1 _ q1 => ⟨trivial, fun a2 s2 _ c2 f2 _ q2 _ => ?_⟩⟩⟩⟩⟩⟩⟩
  have hv := h5.1 (Classical.not_not.1 hv5)
  have hb := hv.1
  have d0 := len0 d
  have n1 : ¬ okShare a1 s1 c1 f1 := fun h => by
    have e := q1.1.fq
    have e2 : fracQ (-1) 5 = Rat.divInt (-1) 5 := fracQ_eq (by decide)
    rw [e2] at e
    have := h.2.1
    rw [e] at this
    exact absurd this (by decide)
  have n2 : ¬ okShare a2 s2 c2 f2 := fun h => by
    have e := q2.1.fq
    have e2 : fracQ 6 5 = Rat.divInt 6 5 := fracQ_eq (by decide)
    rw [e2] at e
    have := h.2.2
    rw [e] at this
    exact absurd this (by decide)
  obtain ⟨L, hL⟩ : ∃ L, L = Sl.lit [[D.bool (decide False), Sl.d Sl.nil, .bool (decide False), Sl.d Sl.nil], [.bool a1, Sl.d s1, .bool c1, Sl.d f1], [.bool a2, Sl.d s2, .bool c2, Sl.d f2]] := ⟨_, rfl⟩
  rw [← hL]
  have ll : L.len = 3 := by rw [hL]; rfl
  have bad : ∀ i : Int, 0 ≤ i → i < 3 → ¬ okShare (L.bool i 0) (L.sub i 1) (L.bool i 2) (L.sub i 3) := fun i i0 i1 => by
    rcases (show i = 0 ∨ i = 1 ∨ i = 2 by omega) with rfl | rfl | rfl
    · rw [hL]; exact zero_share
    · rw [hL]; exact n1
    · rw [hL]; exact n2
  refine ⟨fun i => 0 ≤ i ∧ i ≤ 3, fun i => (3 - i).toNat, ⟨by omega, by omega⟩, fun i _ hJ => ?_⟩
  obtain ⟨i0, i1⟩ := hJ
  rw [ll]
  refine ⟨fun hi => ⟨i0, hi, fun _ _ => ⟨trivial, fun r _ e _ hq => ?_⟩⟩, fun hi => ⟨trivial, fun a s _ c f _ hq => ?_⟩⟩
  · have hq : limS st d p st (L.bool i 0) (L.sub i 1) (L.bool i 2) (L.sub i 3) r e := hq
    obtain ⟨rfl, rfl⟩ := hq.1 (fun k => bad i i0 hi k.2)
    exact ⟨fun k => absurd rfl k, fun _ => ⟨fun k => absurd rfl k, fun _ => ⟨by rw [rng64]; omega, ⟨by omega, by omega⟩, by show (3 - (i + 1)).toNat < (3 - i).toNat; omega⟩⟩⟩
  · have hq : q_kFrac 1 2 a s c f := hq
    obtain ⟨hs, eq, hden, h0, h1⟩ := part_share hq ⟨by decide, by decide⟩ ⟨by decide, by decide⟩
    have lo : ¬ hasS st d (imin x (st - 1)) := fun h => by have := h.1; unfold imin at this; split at this <;> omega
    have hi' : ¬ hasS st d (imax x (st + d.len)) := fun h => by have := h.2; unfold imax at this; split at this <;> omega
    have hm : hasS st d st := ⟨Int.le_refl _, by omega⟩
    have lim := part_limit (m := st) hq ⟨by decide, by decide⟩ ⟨by decide, by decide⟩ hv hm
    refine ⟨by rw [rng64]; omega, trivial, fun r1 _ e1 _ h1 _ => ⟨by rw [rng64]; omega, trivial, fun r2 _ e2 _ h2 => ⟨trivial, fun t1 _ e3 _ h3 => ⟨trivial, fun t2 _ e4 _ h4 _ => ⟨by rw [rng64]; omega, trivial, fun n1 _ e5 _ h5 => ⟨trivial, fun n2 _ e6 _ h6 => ?_⟩⟩⟩⟩⟩⟩
    have g1 := (limS_uniq h1 (lim_month hv hs lo)).2
    have g2 := (limS_uniq h2 (lim_month hv hs hi')).2
    have g5 := ((h5 _ _ (lim_month hv hs hi')).1 (by decide)).2
    have g3 := (((h3 _ _ lim.1).2 rfl).1 (fun k => by have := k.1; unfold imin at this; split at this <;> omega)).2
    have g4 := (((h4 _ _ lim.1).2 rfl).1 (fun k => by have := k.2; unfold imax at this; split at this <;> omega)).2
    have o0 : outS st d p st = 0 := sumTo_zero fun i h0 h1 => if_neg (by omega)
    have g6 : runsD st d p st (fq a s f) n2 e6 := (h6 _ _ lim.1).2 rfl
    have none_ : ∀ k : Nat, underS st d p st (fq a s f) k → k = 0 := fun k hu => by
      rcases Nat.eq_zero_or_pos k with h | h
      · exact h
      · have : (0 : Int) < outS st d p st := (hu 0 h).1
        omega
    have g6 : n2 = 0 ∧ e6 = 0 := by
      rcases g6 with ⟨he, k, hk, hu, _⟩ | ⟨_, _, k, hu, hlt, _⟩
      · have := none_ k hu; subst this; exact ⟨hk, he⟩
      · have := none_ k hu; subst this
        have : (0 : Int) < outS st d p st := hlt
        omega
    exact ⟨fun _ => ⟨fun _ => ⟨fun _ => ⟨fun _ => ⟨fun _ => ⟨fun _ => ⟨fun _ => aw, fun k => absurd g6.1 k⟩, fun k => absurd g6.2 k⟩, fun k => absurd (by omega) k⟩, fun k => absurd g3 k⟩, fun k => absurd (by omega) k⟩, fun k => absurd (by omega) k⟩, fun k => absurd g1 k⟩

end Go.Sx.N
