/-
  The condition of TaxEven. Conditions: none.
-/
import Derived.Test.YtedajccdbdlaoaaGreatNumVEven
import Derived.Test.YtedajccdbdlaoaaGreatTaxFc
set_option linter.unusedVariables false
set_option linter.unusedSimpArgs false
namespace Go.Sx.N

theorem Even_ok : V_Even := by
  intro l _ x _ _
  simp only [Bool.decide_eq_true]
  refine ⟨trivial, fun b hb => ⟨fun k => absurd hb k, fun _ => ⟨trivial, fun c _ => ⟨fun _ => ⟨rfl, trivial⟩, fun _ => ⟨trivial, fun d hd => ⟨fun _ => ⟨rfl, trivial⟩, fun hv => ⟨trivial, fun g _ hg => ?_⟩⟩⟩⟩⟩⟩⟩
  have v := hd.1 (Classical.not_not.1 hv)
  have g01 : 0 ≤ g ∧ g ≤ 91625968980 := by
    have hg : g = if (91625968981 : Int) < 1 then 0 else x % 91625968981 := hg
    rw [if_neg (by decide)] at hg
    omega
  have vy := year1_valid (x := 1900) v
  refine ⟨fun least great m mo g' t => 0 ≤ m ∧ m ≤ 12 ∧ 0 ≤ mo ∧ mo ≤ m ∧ mo ≤ 11 ∧ g' = m * g ∧ t = ((m : Rat) * TT l 1 g).floor ∧ least ≤ great ∧ (0 < m → (TT l 1 g).floor ≤ least ∧ great ≤ (TT l 1 g).floor + 1) ∧ (m = 0 → least = 0 ∧ great = 0),
    fun _ _ m _ _ _ => (12 - m).toNat, ⟨by omega, by omega, by omega, by omega, by omega, by omega, ?_, by omega, by omega, fun _ => ⟨rfl, rfl⟩⟩, fun least _ great _ m _ mo _ g' _ t _ hJ => ?_⟩
  · rw [show ((0 : Int) : Rat) = 0 from rfl, Rat.zero_mul]; exact (Rat.floor_intCast 0).symm
  obtain ⟨m0, m1, mo0, mo1, mo2, eg, et, hlg, hpos, hz⟩ := hJ
  have a1 : amt g := ⟨by omega, by omega⟩
  have fb := due_bounds (l := l) (m := 1) (A := g) v ⟨by decide, by decide⟩ a1
  refine ⟨fun hlt => ⟨trivial, fun r _ mo' _ g2 _ t' _ e _ hh => ?_⟩, fun hge => ⟨?_, ?_, trivial⟩⟩
  · have hh : held (year1 1900 l) mo g' t m g r mo' g2 t' e := hh
    have p0 : 0 ≤ m * g := Int.mul_nonneg m0 g01.1
    have p1 : m * g ≤ 11 * 91625968980 := Int.mul_le_mul (by omega) g01.2 g01.1 (by decide)
    have tb : 0 ≤ t ∧ t ≤ 1099511627776 := by
      by_cases hm : m = 0
      · subst hm
        rw [show ((0 : Int) : Rat) = 0 from rfl, Rat.zero_mul] at et
        have : (0 : Rat).floor = 0 := Rat.floor_intCast 0
        omega
      · rw [← TT_scale (by omega : 1 ≤ m)] at et
        have := due_bounds (l := l) (m := m) (A := m * g) v ⟨by omega, by omega⟩ ⟨by omega, by omega⟩
        omega
    have ok : okP6 (year1 1900 l) mo g' t m g := ⟨vy, ⟨by omega, by omega⟩, ⟨by omega, by omega⟩, ⟨by omega, by omega⟩, ⟨by omega, by omega⟩, a1⟩
    have q := (hh.2 ok).2 0 (year1_appl (by omega))
    have gs : ∀ z : Int, goes mo m z = z := fun z => by unfold goes; rw [if_pos (by omega)]
    rw [gs, gs, year1_sub] at q
    have e12 : (m + 1) * g = m * g + g := by rw [Int.add_mul, Int.one_mul]
    obtain ⟨q1, q2, q3, q4, q5⟩ := q.2 (by omega)
    have q2' : g2 = (m + 1) * g := by omega
    have q3' : t' = (((m + 1 : Int) : Rat) * TT l 1 g).floor := by
      rw [← TT_scale (by omega : 1 ≤ m + 1), ← q2', q3, show m % 12 + 1 = m + 1 by omega]
    have fa := floor_add ((m : Rat) * TT l 1 g) (TT l 1 g)
    have er : (m : Rat) * TT l 1 g + TT l 1 g = ((m + 1 : Int) : Rat) * TT l 1 g := by
      rw [Rat.intCast_add, show ((1 : Int) : Rat) = 1 from rfl]; grind
    rw [er, ← q3', ← et] at fa
    have rb : (TT l 1 g).floor ≤ r ∧ r ≤ (TT l 1 g).floor + 1 := by omega
    have im : imin r r = r := by unfold imin; split <;> rfl
    have ix : imax r r = r := by unfold imax; split <;> rfl
    refine ⟨fun k => absurd q5 k, fun _ => ⟨fun k => by omega, fun _ => ⟨fun hm => ⟨by rw [rng64]; omega, ?_, by show (12 - (m + 1)).toNat < (12 - m).toNat; omega⟩, fun hm => ⟨by rw [rng64]; omega, ?_, by show (12 - (m + 1)).toNat < (12 - m).toNat; omega⟩⟩⟩⟩
    · rw [im, ix]
      exact ⟨by omega, by omega, by omega, by omega, by omega, q2', q3', Int.le_refl _, fun _ => rb, fun k => by omega⟩
    · have hp := hpos (by omega)
      have n1 : (TT l 1 g).floor ≤ imin least r ∧ imax great r ≤ (TT l 1 g).floor + 1 ∧ imin least r ≤ imax great r := by
        unfold imin imax; (repeat' split) <;> omega
      exact ⟨by omega, by omega, by omega, by omega, by omega, q2', q3', n1.2.2, fun _ => ⟨n1.1, n1.2.1⟩, fun k => by omega⟩
  · have hp := hpos (by omega)
    rw [rng64]; omega
  · have hp := hpos (by omega)
    show decide (great - least ≤ 1) = true
    rw [decide_eq_true_eq]; omega

end Go.Sx.N
