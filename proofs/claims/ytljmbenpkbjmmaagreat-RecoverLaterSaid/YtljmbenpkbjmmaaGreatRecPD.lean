/-
  The condition of RecoverLater. Conditions: none.
-/
import Derived.Test.YtljmbenpkbjmmaaGreatNumVLater
import Derived.Test.YtljmbenpkbjmmaaGreatRecM
set_option linter.unusedVariables false
set_option linter.unusedSimpArgs false
namespace Go.Sx.N

theorem Later_ok : V_Later := by
  intro st _ d _ p _ day _ m _ _
  simp only [Bool.decide_eq_true]
  have aw : p_awake ∧ ∀ b : Bool, q_awake b → q_Later st d p day m b ∧ True := ⟨trivial, fun b hb => ⟨hb, trivial⟩⟩
  refine ⟨trivial, fun b4 _ => ⟨fun _ => aw, fun _ => ⟨trivial, fun b5 h5 => ⟨fun _ => aw, fun hv5 => ⟨trivial, fun a s _ c f _ hq => ⟨trivial, fun t _ e _ ht => ⟨fun _ => aw, fun he _ => ?_⟩⟩⟩⟩⟩⟩⟩
  have hv := h5.1 (Classical.not_not.1 hv5)
  have hb := hv.1
  have d0 := len0 d
  have t0 := len0 t
  have hq : q_kFrac 1 1 a s c f := hq
  have he : e = 0 := Classical.not_not.1 he
  rcases take_cases st d p day m with ⟨E, hE, hall⟩ | ⟨_, hm, hday, hall⟩
  · exact absurd (hall 1 1 a c s f t e hq ⟨by decide, by decide⟩ ⟨by decide, by decide⟩ ht).1 (by omega)
  have ts := (hall 1 1 a c s f t e hq ⟨by decide, by decide⟩ ⟨by decide, by decide⟩ ht).2
  have lb := part_limit (st := st) (d := d) (p := p) (m := m) hq ⟨by decide, by decide⟩ ⟨by decide, by decide⟩ hv hm
  obtain ⟨lim, hlim⟩ : ∃ lim, lim = (Rat.divInt 1 1 * ((d.int (m - st) 0 : Int) : Rat)).floor := ⟨_, rfl⟩
  rw [← hlim] at ts lb
  have tl : t.len ≤ 1200 := by
    have := ts.1
    rw [len_lit] at this
    have := rows_len (st := st) (d := d) (p := p) (day := day) (m := m) (lim := lim) d.n
    unfold Sl.len at *; omega
  refine ⟨fun i => 0 ≤ i ∧ i ≤ t.len, fun i => (t.len - i).toNat, ⟨Int.le_refl _, t0⟩, fun i _ hJ => ?_⟩
  obtain ⟨i0, i1⟩ := hJ
  refine ⟨fun hi => ⟨i0, hi, fun _ _ _ _ => ⟨trivial, fun o _ e1 _ ho => ?_⟩⟩, fun hi => ⟨trivial, fun f1 _ e1 _ h1 _ => ?_⟩⟩
  · obtain ⟨k, hk, hu, _, r1, _, r3⟩ := post_at ts i0 hi
    have ub := used_bd hv (m := m) lb.2.1 hk
    have pp := posi_pos (x := ov st d p k) (by omega)
    have ho := (ho.2 hv).2 (by rw [r1]; exact ⟨by omega, by omega⟩)
    rw [r1, show st + (k : Int) - st = k by omega] at ho
    have oo : o = - ov st d p k := by unfold ov; omega
    have obd := ov_bd hv (k := k) (by omega) hk
    have hmk : st + (k : Int) < m := by
      rcases Int.lt_or_le (st + (k : Int)) m with h | h
      · exact h
      · have := ub.2.2.2 h; omega
    rw [r1, r3]
    exact ⟨fun h => absurd ho.2 h, fun _ => ⟨fun h => by omega, fun _ => ⟨fun h => by omega, fun _ => ⟨by rw [rng64]; omega, by rw [rng64]; omega, fun h => by omega, fun _ => ⟨by rw [rng64]; omega, ⟨by omega, by omega⟩, by show (t.len - (i + 1)).toNat < (t.len - i).toNat; omega⟩⟩⟩⟩⟩
  · have g1 := h1.2 hv
    have o0 : outS st d p st = 0 := sumTo_zero fun i h0 h1 => if_neg (by omega)
    refine ⟨fun x k => (0 ≤ k ∧ k ≤ d.len) ∧ x = sumTo (fun k => if st + k < 2400 then posi (ov st d p k) else 0) k.toNat, fun _ k => (d.len - k).toNat, ⟨⟨Int.le_refl _, d0⟩, rfl⟩, fun x _ k _ hJ => ?_⟩
    obtain ⟨⟨k0, k1⟩, hx⟩ := hJ
    refine ⟨fun hlt => ⟨by rw [rng64]; omega, trivial, fun o _ e2 _ ho => ?_⟩, fun hge => ⟨trivial, fun x2 _ e2 _ h2 => ?_⟩⟩
    · have ho := (ho.2 hv).2 ⟨by omega, by omega⟩
      rw [show st + k - st = k by omega] at ho
      have oo : o = - ov st d p k := by unfold ov; omega
      have obd := ov_bd hv k0 hlt
      have ee := L.sumTo_succ (fun k => if st + k < 2400 then posi (ov st d p k) else 0) k0
      have bb := out_bd hv 2400 (n := (k + 1).toNat) (by omega)
      rw [ee, ← hx] at bb
      rw [if_pos (by omega)] at bb ee
      refine ⟨fun h => absurd ho.2 h, fun _ => ⟨fun hn => ?_, fun hn => ?_⟩⟩
      · have : posi (ov st d p k) = ov st d p k := by unfold posi; rw [if_pos (by omega)]
        rw [this] at bb ee
        exact ⟨by rw [rng64]; omega, by rw [rng64]; omega, ⟨⟨by omega, by omega⟩, by rw [ee]; omega⟩, by show (d.len - (k + 1)).toNat < (d.len - k).toNat; omega⟩
      · have : posi (ov st d p k) = 0 := by unfold posi; rw [if_neg (by omega)]
        rw [this, Int.add_zero] at ee
        exact ⟨by rw [rng64]; omega, ⟨⟨by omega, by omega⟩, by rw [ee, hx]⟩, by show (d.len - (k + 1)).toNat < (d.len - k).toNat; omega⟩
    · have g2 := h2.2 hv
      have kn : k.toNat = d.n := by unfold Sl.len at *; omega
      rw [kn] at hx
      have g3 : x2 = x := by rw [g2.1, hx]; rfl
      exact ⟨fun _ => ⟨fun _ => ⟨fun _ => ⟨fun _ => aw, fun h => absurd g3 h⟩, fun h => absurd (by omega) h⟩, fun h => absurd g2.2 h⟩, fun h => absurd g1.2 h⟩

end Go.Sx.N
