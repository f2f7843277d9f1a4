/-
  The condition of TaxYear. Conditions: none.
-/
import Derived.Test.YtedajccdbdlaoaaGreatNumVYear
import Derived.Test.YtedajccdbdlaoaaGreatTaxFc
set_option linter.unusedVariables false
set_option linter.unusedSimpArgs false
namespace Go.Sx.N

/-- One payment more within the year. -/
theorem year_step {l : Sl} (v : validS l) {first mo g t month gross r mo' g' t' e : Int} (hf : 0 ≤ first ∧ first ≤ 2136 ∧ first % 12 = 0) (h1 : first ≤ mo ∧ mo ≤ month ∧ month ≤ first + 11)
    (hg : 0 ≤ g ∧ 0 ≤ gross ∧ g + gross ≤ 1099511627776) (ht : t = (TT l (mo - first + 1) g).floor) (hh : held (year1 1900 l) mo g t month gross r mo' g' t' e) :
    mo' = month ∧ g' = g + gross ∧ t' = (TT l (month - first + 1) (g + gross)).floor ∧ r = t' - t ∧ e = 0 ∧ r ≤ gross ∧ 0 ≤ t' ∧ t' ≤ 1099511627776 ∧ 0 ≤ t ∧ t ≤ 1099511627776 := by
  have tb := due_bounds (l := l) (m := mo - first + 1) (A := g) v ⟨by omega, by omega⟩ ⟨by omega, by omega⟩
  rw [← ht] at tb
  have ok : okP6 (year1 1900 l) mo g t month gross := ⟨year1_valid v, ⟨by omega, by omega⟩, ⟨by omega, by omega⟩, ⟨by omega, by omega⟩, ⟨by omega, by omega⟩, ⟨by omega, by omega⟩⟩
  have q := (hh.2 ok).2 0 (year1_appl (by omega))
  have gs : ∀ z : Int, goes mo month z = z := fun z => by unfold goes; rw [if_pos (by omega)]
  rw [gs, gs, year1_sub] at q
  obtain ⟨q1, q2, q3, q4, q5⟩ := q.2 (by omega)
  rw [show month % 12 + 1 = month - first + 1 by omega, q2] at q3
  have nb := due_bounds (l := l) (m := month - first + 1) (A := g + gross) v ⟨by omega, by omega⟩ ⟨by omega, by omega⟩
  rw [← q3] at nb
  have k1 := TT_month v (m := mo - first + 1) (m' := month - first + 1) (A := g + gross) (by omega)
  have k2 := TT_lip v (m := mo - first + 1) (A := g) (b := gross) hg.2.1
  have k3 := floor_lip (Rat.le_trans k1 k2)
  rw [← q3, ← ht] at k3
  exact ⟨q1, q2, q3, q4, q5, by omega, by omega, by omega, by omega, by omega⟩

theorem Year_ok : V_Year := by
  intro l _ yr ryr pays _ _
  simp only [Bool.decide_eq_true]
  have ryr : 0 ≤ yr ∧ yr ≤ 255 := ryr
  refine ⟨trivial, fun b hb => ⟨fun k => absurd hb k, fun _ => ⟨trivial, fun c _ => ⟨fun _ => ⟨rfl, trivial⟩, fun _ => ⟨trivial, fun d hd => ⟨fun _ => ⟨rfl, trivial⟩, fun hv _ => ⟨fun _ => ⟨rfl, trivial⟩, fun h60 => ?_⟩⟩⟩⟩⟩⟩⟩
  have v := hd.1 (Classical.not_not.1 hv)
  have l0 := len0 pays
  have tm : Int.tmod yr 179 = yr % 179 := Int.tmod_eq_emod_of_nonneg ryr.1
  rw [tm]
  obtain ⟨first, hfirst⟩ : ∃ first, first = 12 * (yr % 179) := ⟨_, rfl⟩
  rw [← hfirst]
  have hf : 0 ≤ first ∧ first ≤ 2136 ∧ first % 12 = 0 := by omega
  refine ⟨by decide, by rw [rng64]; omega, by rw [rng64]; omega,
    fun sum i mo g t => 0 ≤ i ∧ i ≤ pays.len + 1 ∧ first ≤ mo ∧ mo ≤ first + 11 ∧ 0 ≤ g ∧ g ≤ i * 18325193795 ∧ g ≤ 60 * 18325193795 ∧ sum = t ∧ t = (TT l (mo - first + 1) g).floor ∧ (pays.len < i → mo = first + 11),
    fun _ i _ _ _ => (pays.len + 1 - i).toNat, ⟨by omega, by omega, by omega, by omega, by omega, by omega, by omega, rfl, ?_, fun k => by omega⟩, fun sum _ i _ mo _ g _ t _ hJ _ => ?_⟩
  · rw [TT_zero v (by omega)]; exact (Rat.floor_intCast 0).symm
  obtain ⟨i0, i1, a1, a2, g0, g1, g60, es, et, hend⟩ := hJ
  have tb := due_bounds (l := l) (m := mo - first + 1) (A := g) v ⟨by omega, by omega⟩ ⟨by omega, by omega⟩
  rw [← et] at tb
  refine ⟨fun hle => ⟨by rw [rng64]; omega, fun _ => ⟨fun hlt => ⟨i0, hlt, fun _ => ⟨trivial, fun p _ hp => ?_⟩⟩, fun hge => ⟨trivial, fun r _ mo' _ g' _ t' _ e _ hh => ?_⟩⟩⟩, fun hgt => ⟨trivial, fun a b rb c d rd e _ hx => ?_⟩⟩
  · have p03 : 0 ≤ p ∧ p ≤ 3 := by
      have hp : p = if (4 : Int) < 1 then 0 else pays.int i 0 % 4 := hp
      rw [if_neg (by decide)] at hp
      omega
    refine ⟨by rw [rng64]; omega, i0, hlt, fun _ => ⟨trivial, fun gr _ hgr => ⟨trivial, fun r _ mo' _ g' _ t' _ e _ hh => ?_⟩⟩⟩
    have gr0 : 0 ≤ gr ∧ gr ≤ 18325193795 := by
      have hgr : gr = if (18325193796 : Int) < 1 then 0 else pays.int i 1 % 18325193796 := hgr
      rw [if_neg (by decide)] at hgr
      omega
    obtain ⟨mm, hmm⟩ : ∃ mm, mm = imin (mo + p) (first + 11) := ⟨_, rfl⟩
    have bm : mo ≤ mm ∧ mm ≤ first + 11 := by rw [hmm]; unfold imin; split <;> omega
    rw [← hmm] at hh ⊢
    have hh : held (year1 1900 l) mo g t mm gr r mo' g' t' e := hh
    obtain ⟨k1, k2, k3, k4, k5, k6, k7⟩ := year_step v hf ⟨a1, bm.1, bm.2⟩ ⟨g0, gr0.1, by omega⟩ et hh
    refine ⟨by rw [rng64]; omega, by rw [rng64]; omega, trivial, fun x _ y _ hq => ⟨by rw [rng64]; omega, ?_⟩⟩
    have q := hq.1 ⟨v, ⟨by omega, by omega⟩, ⟨by omega, by omega⟩⟩
    have qx : x = t' := by rw [q.1, k2, k3]
    refine ⟨fun k => absurd k5 k, fun _ => ⟨fun k => absurd q.2 k, fun _ => ⟨fun k => by omega, fun _ => ⟨by rw [rng64]; omega, fun k => absurd k2 k, fun _ => ⟨fun k => absurd (by omega) k, fun _ => ⟨fun k => absurd (by omega) k, fun _ => ⟨fun k => absurd k1 k, fun _ => ⟨by rw [rng64]; omega, ⟨by omega, by omega, by omega, by omega, by omega, by omega, by omega, by omega, by rw [k1, k2]; exact k3, fun k => by omega⟩, by show (pays.len + 1 - (i + 1)).toNat < (pays.len + 1 - i).toNat; omega⟩⟩⟩⟩⟩⟩⟩⟩
  · have hh : held (year1 1900 l) mo g t (first + 11) 0 r mo' g' t' e := hh
    obtain ⟨k1, k2, k3, k4, k5, k6, k7⟩ := year_step v hf ⟨a1, a2, Int.le_refl _⟩ ⟨g0, by omega, by omega⟩ et hh
    refine ⟨by rw [rng64]; omega, by rw [rng64]; omega, trivial, fun x _ y _ hq => ⟨by rw [rng64]; omega, ?_⟩⟩
    have q := hq.1 ⟨v, ⟨by omega, by omega⟩, ⟨by omega, by omega⟩⟩
    have qx : x = t' := by rw [q.1, k2, k3]
    refine ⟨fun k => absurd k5 k, fun _ => ⟨fun k => absurd q.2 k, fun _ => ⟨fun k => by omega, fun _ => ⟨by rw [rng64]; omega, fun k => absurd k2 k, fun _ => ⟨fun k => absurd (by omega) k, fun _ => ⟨fun k => absurd (by omega) k, fun _ => ⟨fun k => absurd k1 k, fun _ => ⟨by rw [rng64]; omega, ⟨by omega, by omega, by omega, by omega, by omega, by omega, by omega, by omega, by rw [k1, k2]; exact k3, fun k => by omega⟩, by show (pays.len + 1 - (i + 1)).toNat < (pays.len + 1 - i).toNat; omega⟩⟩⟩⟩⟩⟩⟩⟩
  · have q := hx.1 ⟨v, ⟨by omega, by omega⟩⟩
    have em := hend (by omega)
    rw [em, show first + 11 - first + 1 = 12 by omega] at et
    refine ⟨fun _ => ⟨trivial, fun y _ hy => ⟨?_, trivial⟩⟩, fun k => absurd q.2.2 k⟩
    have z := hy q.2.1 (by rw [q.1.fq, ← et]; unfold inI64; omega)
    rw [q.1.fq, ← et] at z
    show decide (y = sum) = true
    rw [decide_eq_true_eq]; omega

end Go.Sx.N
