/-
  The condition of RecoverWithin. Conditions: none.
-/
import Derived.Test.YtljmbenpkbjmmaaGreatNumVWithin
import Derived.Test.YtljmbenpkbjmmaaGreatRecM
set_option linter.unusedVariables false
set_option linter.unusedSimpArgs false
namespace Go.Sx.N

theorem Within_ok : V_Within := by
  intro st _ d _ p _ day _ m _ n rn k rk _
  rw [rngu8] at rn rk
  simp only [Bool.decide_eq_true]
  have aw : p_awake ∧ ∀ b : Bool, q_awake b → q_Within st d p day m n k b ∧ True := ⟨trivial, fun b hb => ⟨hb, trivial⟩⟩
  have tm : Int.tmod n (k + 2) = n % (k + 2) := Int.tmod_eq_emod_of_nonneg rn.1
  have nb : 0 ≤ n % (k + 2) ∧ n % (k + 2) ≤ k + 1 := by
    have := Int.emod_nonneg n (show k + 2 ≠ 0 by omega)
    have := Int.emod_lt_of_pos n (show 0 < k + 2 by omega)
    omega
  rw [tm]
  refine ⟨trivial, fun b4 _ => ⟨fun _ => aw, fun _ => ⟨by rw [rng64]; omega, by omega, by rw [rng64]; omega, by rw [rng64]; omega, trivial, fun a s _ c f _ hq => ⟨trivial, fun st' _ d' _ p' _ e _ ha => ?_⟩⟩⟩⟩
  have hq : q_kFrac (n % (k + 2)) (k + 1) a s c f := hq
  obtain ⟨t, e0, ht, hz, hp⟩ := ha
  refine ⟨fun he => ⟨trivial, fun w hw => ⟨fun _ => aw, fun hn => absurd (hw.2 ?_) hn⟩⟩, fun he => ?_⟩
  · have z : zeroS st' d' p' := by
      by_cases h0 : e0 = 0
      · have g := hp h0
        by_cases po : postOk st d p t
        · by_cases hl : 4000 < p.len + t.len
          · exact ((g.2 po).1 hl).2
          · exact absurd ((g.2 po).2 (by omega)).1 he
        · exact (g.1 po).2
      · exact (hz h0).1
    obtain ⟨z1, z2, z3⟩ := z
    exact ⟨z1, ⟨z2, fun i i0 i1 => by omega⟩, ⟨z3, fun i i0 i1 => by omega⟩⟩
  have he : e = 0 := Classical.not_not.1 he
  have h0 : e0 = 0 := Classical.byContradiction fun h => by have := (hz h).2; omega
  have g := hp h0
  have po : postOk st d p t := Classical.byContradiction fun h => by have := (g.1 h).1; omega
  have hl : p.len + t.len ≤ 4000 := by
    rcases Int.lt_or_le 4000 (p.len + t.len) with h | h
    · have := ((g.2 po).1 h).1; omega
    · exact h
  obtain ⟨_, rfl, ed, bh⟩ := (g.2 po).2 hl
  have hv := po.1
  have hb := hv.1
  have d0 := len0 d
  have hk : 1 ≤ k + 1 ∧ k + 1 ≤ 65536 := by omega
  rcases take_cases st' d p day m with ⟨E, hE, hall⟩ | ⟨_, hm, hday, hall⟩
  · exact absurd (hall _ _ a c s f t e0 hq hk nb ht).1 (by omega)
  have ts := (hall _ _ a c s f t e0 hq hk nb ht).2
  have lb := part_limit (st := st') (d := d) (p := p) (m := m) hq hk nb hv hm
  obtain ⟨lim, hlim⟩ : ∃ lim, lim = (Rat.divInt (n % (k + 2)) (k + 1) * ((d.int (m - st') 0 : Int) : Rat)).floor := ⟨_, rfl⟩
  rw [← hlim] at ts lb
  have db := hv.2.1 (m - st') (by have := hm.1; omega) (by have := hm.2; omega)
  have te := taken_eq hv (m := m) lb.2.1
  have ob := out_behind hv lb.2.1 ts ed bh
  have tb := total_behind (day := day) (m := m) hv lb.2.1 ts bh
  have dl : d'.len = d.len := ed.1
  have hv' : validS st' d' p' := by
    refine ⟨⟨by omega, by omega, by omega, by omega⟩, fun i i0 i1 => ?_, by rw [bh.1]; exact hl, ?_⟩
    · rw [ed.2 i i0 i1]; exact hv.2.1 i i0 (by omega)
    · rw [dl]
      exact (follow_app bh 0).2 ⟨hv.2.2.2, po.2⟩
  obtain ⟨T, hT⟩ : ∃ T, T = lim - leftS st' d p m lim d.n := ⟨_, rfl⟩
  rw [← hT] at te ob tb
  refine ⟨trivial, fun x16 _ x17 _ h16 => ⟨trivial, fun x18 _ x19 _ h18 => ⟨trivial, fun x20 _ x21 _ h20 => ⟨trivial, fun x22 _ x23 _ h22 => ⟨trivial, fun x24 _ x25 _ h24 => ?_⟩⟩⟩⟩⟩
  obtain ⟨l16, rfl⟩ := limS_uniq h16 lb.1
  obtain ⟨l18, rfl⟩ := h18.2 hv
  obtain ⟨l20, rfl⟩ := h20.2 hv'
  obtain ⟨l22, rfl⟩ := h22.2 hv (by decide) (by decide)
  obtain ⟨l24, rfl⟩ := h24.2 hv' (by decide) (by decide)
  rw [ob] at l20
  rw [tb] at l24
  have oo := out_bd hv m (n := d.n) (Int.le_refl _)
  have oo : 0 ≤ outS st' d p m ∧ outS st' d p m ≤ 5277655813324800000 := oo
  have eT : x22 - x24 = T := by omega
  have im : imin x16 x18 = T := by rw [l16, l18, te.1]
  rw [eT, im]
  have Rz : ∀ x : Int, -9223372036854775808 ≤ x ∧ x ≤ 9223372036854775807 → Rng .i64 x := fun _ h => h
  refine ⟨Rz _ (by omega), Rz _ (by omega), Rz _ (by omega), Rz _ (by omega), fun h => absurd (by decide) h, fun _ => ⟨Rz _ (by omega), fun h => absurd rfl h, fun _ => ⟨Rz _ (by omega), Rz _ (by omega), fun h => absurd (by omega) h, fun _ => ⟨trivial, fun w hw => ⟨fun h => absurd (hw.2 hv') h, fun _ _ => ?_⟩⟩⟩⟩⟩
  refine ⟨fun i => 0 ≤ i ∧ i ≤ d.len, fun i => (d.len - i).toNat, ⟨Int.le_refl _, d0⟩, fun i _ hJ => ?_⟩
  obtain ⟨i0, i1⟩ := hJ
  refine ⟨fun hi => ⟨Rz _ (by omega), trivial, fun x _ e1 _ hx => ⟨Rz _ (by omega), trivial, fun y _ e2 _ hy => ?_⟩⟩, fun hi => aw⟩
  have hx := (hx.2 hv).2 ⟨by omega, by omega⟩
  have hy := (hy.2 hv').2 ⟨by omega, by omega⟩
  rw [show st' + i - st' = i by omega] at hx hy
  have ei : ((i.toNat : Nat) : Int) = i := by omega
  have hki : ((i.toNat : Nat) : Int) < d.len := by omega
  have oi := ov_behind hv lb.2.1 ts ed bh hki
  have ub := used_bd hv (m := m) lb.2.1 hki
  rw [ei] at oi ub
  obtain ⟨u, hu⟩ : ∃ u, u = usedS st' d p m lim i.toNat := ⟨_, rfl⟩
  rw [← hu] at oi ub
  have x1 : x = - ov st' d p i := by unfold ov; omega
  have y1 : y = x + u := by
    have : y = - ov st' d' p' i := by unfold ov; omega
    omega
  have pu : (0 < ov st' d p i ∧ u ≤ ov st' d p i) ∨ (ov st' d p i ≤ 0 ∧ u = 0) := by
    have := ub.2.1
    unfold posi at this
    split at this
    · left; omega
    · right; omega
  have nx : Rng .i64 (i + 1) ∧ (0 ≤ i + 1 ∧ i + 1 ≤ d.len) ∧ (d.len - (i + 1)).toNat < (d.len - i).toNat := ⟨Rz _ (by omega), ⟨by omega, by omega⟩, by omega⟩
  have w0 : V_Within_0 st' d p day m n k (fun i => 0 ≤ i ∧ i ≤ d.len) (fun i => (d.len - i).toNat) i x y := ⟨Rz _ (by omega), fun hge => ⟨fun h => absurd (by have := ub.2.2.2 hge; omega) h, fun _ => nx⟩, fun _ => nx⟩
  have w1 : V_Within_1 st' d p day m n k (fun i => 0 ≤ i ∧ i ≤ d.len) (fun i => (d.len - i).toNat) i x y := ⟨fun hn => ⟨fun h => by omega, fun _ => ⟨fun h => by omega, fun _ => w0⟩⟩, fun _ => w0⟩
  exact ⟨fun h => absurd hx.2 h, fun _ => ⟨fun h => absurd hy.2 h, fun _ => ⟨fun hge => ⟨fun h => absurd (by omega) h, fun _ => w1⟩, fun _ => w1⟩⟩⟩

end Go.Sx.N
