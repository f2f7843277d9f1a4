/-
  The condition of RecoverRuns. Conditions: none.
-/
import Derived.Test.YtljmbenpkbjmmaaGreatNumVWRuns
import Derived.Test.YtljmbenpkbjmmaaGreatRecM
set_option linter.unusedVariables false
set_option linter.unusedSimpArgs false
namespace Go.Sx.N

theorem w64 {x : Int} (h : -9223372036854775808 ≤ x ∧ x ≤ 9223372036854775807) : IntKind.wrap .i64 x = x :=
  wrap_id .i64 _ (by show (-9223372036854775808 : Int) ≤ _ ∧ _ ≤ (9223372036854775807 : Int); exact h)

section
variable {st : Int} {d p : Sl}
/-- No month from m on is overpaid. -/
def paidS (st : Int) (d p : Sl) (m : Int) : Prop := ∀ i : Int, 0 ≤ i → i < d.len → m ≤ st + i → ov st d p i ≤ 0
theorem out_later {m m' : Int} (h : paidS st d p m) (hm : m ≤ m') : outS st d p m' = outS st d p m :=
  sumTo_congr fun i h0 h1 => by
    by_cases c : st + i < m
    · rw [if_pos c, if_pos (by omega)]
    · rw [if_neg c]
      split
      · have := h i h0 (by unfold Sl.len; exact h1) (by omega)
        unfold posi; rw [if_neg (by omega)]
      · rfl
theorem take_follow {m lim day : Int} {s : Sl} (hv : validS st d p) (hl : 0 ≤ lim) (hl2 : lim ≤ 1099511627776) (hs : eqPosts s (Sl.lit (rowsS st d p day m lim d.n))) (hd : 0 ≤ day ∧ day < 65536) {d0 : Int} (h0 : d0 ≤ day) : followS st d.len s d0 := fun i i0 i1 => by
  obtain ⟨k, k0, k1, a0, a1, a2, a3⟩ := post_at hs i0 i1
  have ub := used_bd hv (m := m) hl k0
  have lb := left_bd hv (m := m) hl (n := k) (by omega)
  refine ⟨?_, ?_⟩
  · unfold fitAt fitsS
    rw [a0, a1, a2, a3]
    exact ⟨⟨hd.1, hd.2, by omega, by omega⟩, .inr ⟨.inl rfl, by omega, by omega⟩⟩
  · unfold prev
    rw [a0]
    split
    · exact h0
    · obtain ⟨_, _, _, b0, _⟩ := post_at hs (i := i - 1) (by omega) (by omega)
      omega

/-- Behind so many recoveries. -/
def RI (st : Int) (d p : Sl) (m : Int) (q : Rat) (k st' : Int) (d' p' : Sl) : Prop :=
  0 ≤ k ∧ st' = st ∧ eqDue d' d ∧ validS st d' p' ∧ p'.len ≤ 30 + 20 * k ∧ lastDay p' ≤ 65486 ∧ paidS st d' p' m ∧ outS st d' p' m = posi (outS st d p m - cumS st d m q k.toNat)
theorem RI.step {m k st' : Int} {d' p' : Sl} {n e : Int} {a c : Bool} {b f : Sl} (hq : q_kFrac n e a b c f) (he : 1 ≤ e ∧ e ≤ 65536) (hn : 0 ≤ n ∧ n ≤ e) (h : RI st d p m (Rat.divInt n e) k st' d' p') (hk : k ≤ 20) (hd : d.len ≤ 20)
    (hm : hasS st d (m + k)) {st2 : Int} {d2 p2 : Sl} {e2 : Int} (ha : q_Apply st' d' p' 65486 (m + k) a b c f st2 d2 p2 e2) : e2 = 0 ∧ RI st d p m (Rat.divInt n e) (k + 1) st2 d2 p2 := by
  obtain ⟨k0, es, ed, hv, pl, ld, pd, ho⟩ := h
  subst es
  have dl := ed.1
  have hm1 := hm
  unfold hasS at hm1
  have hm' : hasS st' d' (m + k) := by unfold hasS; omega
  obtain ⟨s, e0, ht, hz, hp⟩ := ha
  have lb := part_limit (st := st') (d := d') (p := p') (m := m + k) hq he hn hv hm'
  have t := ((ht _ _ lb.1).2 rfl).2 ⟨by decide, by decide⟩
  have post := hp t.2
  have db := hv.2.1 (m + k - st') (by omega) (by omega)
  have de := ed.2 (m + k - st') (by omega) (by omega)
  have ck : cumS st' d m (Rat.divInt n e) (k + 1).toNat = cumS st' d m (Rat.divInt n e) k.toNat + (Rat.divInt n e * ((d'.int (m + k - st') 0 : Int) : Rat)).floor := by
    rw [show (k + 1).toNat = k.toNat + 1 by omega]
    simp only [cumS]
    rw [show ((k.toNat : Nat) : Int) = k by omega, de]
  obtain ⟨lim, hlim⟩ : ∃ lim, lim = (Rat.divInt n e * ((d'.int (m + k - st') 0 : Int) : Rat)).floor := ⟨_, rfl⟩
  rw [← hlim] at t lb ck
  have hb := hv.1
  have sl : s.len ≤ 20 := by
    have := t.1.1
    rw [len_lit] at this
    have r := rows_len (st := st') (d := d') (p := p') (day := 65486) (m := m + k) (lim := lim) d'.n
    have : (d'.n : Int) = d'.len := rfl
    omega
  have po : postOk st' d' p' s := ⟨hv, take_follow hv lb.2.1 (by omega) t.1 ⟨by decide, by decide⟩ ld⟩
  obtain ⟨hz2, es2, ed2, bh⟩ := (post.2 po).2 (by omega)
  subst es2
  have ob := out_behind hv lb.2.1 t.1 ed2 bh
  have te := taken_eq hv (m := m + k) lb.2.1
  have dl2 := ed2.1
  have pd2 : paidS st2 d2 p2 m := fun i i0 i1 i2 => by
    have ei : ((i.toNat : Nat) : Int) = i := by omega
    have hki : ((i.toNat : Nat) : Int) < d'.len := by omega
    have oi := ov_behind hv lb.2.1 t.1 ed2 bh hki
    have ub := used_bd hv (m := m + k) lb.2.1 hki
    rw [ei] at oi ub
    have := pd i i0 (by omega) i2
    omega
  have l1 := out_later pd (m' := m + k) (by omega)
  have l2 := out_later pd2 (m' := m + k) (by omega)
  have bl := bh.1
  have s0 := len0 s
  have hv2 : validS st2 d2 p2 := by
    refine ⟨⟨by omega, by omega, by omega, by omega⟩, fun i i0 i1 => ?_, by rw [bh.1]; omega, ?_⟩
    · rw [ed2.2 i i0 i1]; exact hv.2.1 i i0 (by omega)
    · rw [dl2]
      exact (follow_app bh 0).2 ⟨hv.2.2.2, po.2⟩
  refine ⟨hz2, by omega, rfl, ⟨by omega, fun i i0 i1 => by rw [ed2.2 i i0 i1]; exact ed.2 i i0 (by omega)⟩, hv2, by omega, ?_, pd2, ?_⟩
  · unfold lastDay at *
    by_cases z : s.len = 0
    · by_cases y : 0 < p'.len
      · rw [if_pos y] at ld
        rw [if_pos (by omega)]
        have := (bh.2.1 (p'.len - 1) (by omega) (by omega)).1
        rw [show p2.len - 1 = p'.len - 1 by omega, this]; exact ld
      · rw [if_neg (by omega)]; decide
    · have p0 := len0 p'
      rw [if_pos (by omega)]
      have := (bh.2.2 (s.len - 1) (by omega) (by omega)).1
      obtain ⟨_, _, _, b0, _⟩ := post_at t.1 (i := s.len - 1) (by omega) (by omega)
      rw [show p2.len - 1 = p'.len + (s.len - 1) by omega, this, b0]
      exact Int.le_refl _
  · rw [ck, ← l2, ob, te.1, l1, ho]
    have := lb.2.1
    generalize cumS st2 d m (Rat.divInt n e) k.toNat = C
    generalize outS st2 d p m = O
    unfold posi imin
    (repeat' split) <;> omega

theorem WRuns_core {m n k : Int} (rn : 0 ≤ n ∧ n ≤ 255) (rk : 0 ≤ k ∧ k ≤ 255) (hd : d.len ≤ 20) (hp : p.len ≤ 30) (hl : lastDay p ≤ 65436) : V_WRuns_0 st d p m n k := by
  have aw : p_awake ∧ ∀ b : Bool, q_awake b → q_WRuns st d p m n k b ∧ True := ⟨trivial, fun b hb => ⟨hb, trivial⟩⟩
  have tm : Int.tmod n (k + 2) = n % (k + 2) := Int.tmod_eq_emod_of_nonneg rn.1
  have nb0 := Int.emod_nonneg n (show k + 2 ≠ 0 by omega)
  have nb1 := Int.emod_lt_of_pos n (show 0 < k + 2 by omega)
  unfold V_WRuns_0
  simp only [Bool.decide_eq_true]
  rw [w64 (x := k + 2) (by omega), w64 (x := k + 1) (by omega), tm]
  generalize n % (k + 2) = u at *
  have hk : 1 ≤ k + 1 ∧ k + 1 ≤ 65536 := by omega
  have hu : 0 ≤ u ∧ u ≤ k + 1 := by omega
  have d0 := len0 d
  refine ⟨by omega, by rw [rng64]; omega, trivial, fun a s _ c f _ hq _ => ?_⟩
  refine ⟨fun i => (0 ≤ i ∧ i ≤ d.len) ∧ (validS st d p → ∀ j : Int, 0 ≤ j → j < i → m ≤ st + j → ov st d p j ≤ 0), fun i => (d.len - i).toNat, ⟨⟨Int.le_refl _, d0⟩, fun _ j h0 h1 => by omega⟩, fun i _ hJ => ?_⟩
  obtain ⟨⟨i0, i1⟩, hJ⟩ := hJ
  rw [w64 (x := i + 1) (by omega)]
  refine ⟨fun hi => ⟨trivial, fun o _ e _ ho => ?_⟩, fun hi => ⟨trivial, fun r _ e _ hr => ?_⟩⟩
  · have nx : (validS st d p → m ≤ st + i → ov st d p i ≤ 0) → ((0 ≤ i + 1 ∧ i + 1 ≤ d.len) ∧ (validS st d p → ∀ j : Int, 0 ≤ j → j < i + 1 → m ≤ st + j → ov st d p j ≤ 0)) ∧ (d.len - (i + 1)).toNat < (d.len - i).toNat := fun h =>
      ⟨⟨⟨by omega, by omega⟩, fun hv j j0 j1 j2 => by
        by_cases c : j < i
        · exact hJ hv j j0 c j2
        · have : j = i := by omega
          subst this; exact h hv j2⟩, by omega⟩
    by_cases hv : validS st d p
    · have hb := hv.1
      rw [w64 (x := st + i) (by omega)] at ho ⊢
      have ho := (ho.2 hv).2 ⟨by omega, by omega⟩
      rw [show st + i - st = i by omega] at ho
      exact ⟨fun _ => ⟨fun hge => ⟨fun _ => aw, fun hn => nx fun _ _ => by unfold ov; omega⟩, fun hlt => nx fun _ h => absurd h hlt⟩, fun h => absurd ho.2 h⟩
    · exact ⟨fun he => absurd he (by have := (ho.1 hv).2; omega), fun _ => nx fun h => absurd h hv⟩
  · obtain ⟨r0, e0, hlm⟩ := lim_ex st d p m a c s f
    have hr := hr _ _ hlm
    refine ⟨fun he => ⟨fun _ => aw, fun h => absurd ?_ h⟩, fun he => ?_⟩
    · by_cases z : e0 = 0
      · rcases hr.2 z with ⟨g, _⟩ | ⟨g, _⟩
        · exact absurd g he
        · exact g
      · exact (hr.1 z).1
    · have he : e = 0 := Classical.not_not.1 he
      have z : e0 = 0 := Classical.byContradiction fun z => by have := (hr.1 z).2; omega
      have hr2 := hr.2 z
      rw [z] at hlm
      obtain ⟨hv, hsh, hm, _⟩ := limS_ok hlm
      rw [(part_share hq hk hu).2.1] at hr2
      rcases hr2 with ⟨_, kk, hkk, hun, hc⟩ | ⟨_, g, _⟩
      · have pd : paidS st d p m := fun j j0 j1 j2 => hJ hv j j0 (by omega) j2
        have hm1 := hm
        unfold hasS at hm1
        have k20 : kk ≤ 20 := by
          rcases Nat.eq_zero_or_pos kk with h | h
          · omega
          · have g := (hun (kk - 1) (by omega)).2.1
            unfold hasS at g
            omega
        have hb := hv.1
        have oo : 0 ≤ outS st d p m := (out_bd hv m (n := d.n) (Int.le_refl _)).1
        refine ⟨fun h => by omega, fun _ => ⟨fun x st' d' p' => x ≤ r ∧ RI st d p m (Rat.divInt u (k + 1)) x st' d' p', fun x _ _ _ => (r - x).toNat, ⟨by omega, Int.le_refl _, rfl, ⟨rfl, fun _ _ _ => rfl⟩, hv, by omega, by omega, pd, ?_⟩, fun x _ st' _ d' _ p' _ hJ => ?_⟩⟩
        · show outS st d p m = posi (outS st d p m - 0)
          unfold posi; split <;> omega
        · obtain ⟨xr, ri⟩ := hJ
          have ri' := ri
          obtain ⟨x0, es, ed, hv', pl, ld, pd', ho'⟩ := ri
          subst es
          rw [w64 (x := x + 1) (by omega)]
          refine ⟨fun hx => ⟨trivial, fun o _ oe _ ho => ?_⟩, fun hx => ⟨trivial, fun o _ oe _ ho => ?_⟩⟩
          · have ho := ho.2 hv'
            have g := hun x.toNat (by omega)
            rw [show ((x.toNat : Nat) : Int) = x by omega] at g
            have hmx := g.2.1
            have hmx1 := hmx
            unfold hasS at hmx1
            rw [w64 (x := m + x) (by omega)]
            have op : 0 < o := by
              rw [ho.1, ho']
              have := g.1
              unfold posi; split <;> omega
            refine ⟨fun h => absurd ho.2 h, fun _ => ⟨fun h => by omega, fun _ => ⟨trivial, fun st2 _ d2 _ p2 _ e2 _ ha => ?_⟩⟩⟩
            have st_ := RI.step hq hk hu ri' (by omega) hd hmx ha
            exact ⟨fun h => absurd st_.1 h, fun _ => ⟨⟨by omega, st_.2⟩, by show (r - (x + 1)).toNat < (r - x).toNat; omega⟩⟩
          · have ho := ho.2 hv'
            have ex : x.toNat = kk := by omega
            have oz : o = 0 := by
              rw [ho.1, ho', ex]
              unfold posi; split <;> omega
            exact ⟨fun _ => ⟨fun _ => aw, fun h => absurd oz h⟩, fun h => absurd ho.2 h⟩
      · exact absurd he g
end

theorem WRuns_ok : V_WRuns := by
  intro st _ d _ p _ m _ n rn k rk _ _
  rw [rngu8] at rn rk
  have aw : p_awake ∧ ∀ b : Bool, q_awake (decide (b = true)) → q_WRuns st d p m n k (decide (b = true)) ∧ True := ⟨trivial, fun b hb => ⟨hb, trivial⟩⟩
  have p0 := len0 p
  refine ⟨fun _ => aw, fun hd _ => ⟨fun _ => aw, fun hp _ => ⟨fun h0 _ => ?_, fun h0 => WRuns_core rn rk (by omega) (by omega) ?_⟩⟩⟩
  · rw [w64 (x := p.len - 1) (by omega)]
    refine ⟨by omega, by omega, fun _ => ⟨fun _ => aw, fun h => WRuns_core rn rk (by omega) (by omega) ?_⟩⟩
    unfold lastDay
    rw [if_pos (by omega)]; omega
  · unfold lastDay
    rw [if_neg (by omega)]; decide

end Go.Sx.N
