/-
  The law ArrearsExact: its condition. Conditions: none.
-/
import Derived.Test.YtmhhcnaflklapaaGreatNumVExact
import Derived.Test.YtmhhcnaflklapaaGreatArrFk
set_option linter.unusedVariables false
set_option linter.unusedSimpArgs false
namespace Go.Sx.N

theorem sumI_const (r : Int) : ∀ n : Nat, sumI (fun _ => r) n = r * n
  | 0 => by simp [sumI]
  | n + 1 => by
    simp only [sumI]
    rw [sumI_const r n, Int.natCast_add, Int.mul_add]
    simp

theorem Exact_ok : V_Exact := by
  intro a ra m rm r rr _
  simp only [Bool.decide_eq_true]
  have ra : 0 ≤ a ∧ a ≤ 4294967295 := ra
  have rm : 0 ≤ m ∧ m ≤ 255 := rm
  have rr : 0 ≤ r ∧ r ≤ 65535 := rr
  have tm : Int.tmod m 201 = m % 201 := Int.tmod_eq_emod_of_nonneg (by omega)
  rw [tm]
  have hn : 0 ≤ m % 201 ∧ m % 201 ≤ 200 := by omega
  generalize m % 201 = n at *
  have e1 : 0 ≤ a * r ∧ a * r ≤ 4294967295 * 65535 := ⟨Int.mul_nonneg ra.1 rr.1, Int.mul_le_mul ra.2 rr.2 rr.1 (by omega)⟩
  have e2 : 0 ≤ a * r * n ∧ a * r * n ≤ 4294967295 * 65535 * 200 := ⟨Int.mul_nonneg e1.1 hn.1, Int.mul_le_mul e1.2 hn.2 hn.1 (by omega)⟩
  refine ⟨by decide, by rw [rng64]; omega, trivial, fun b1 l1 rl1 b2 l2 rl2 hq => ⟨by rw [rng64]; omega, by show okN _; unfold okN; decide, fun v rv e re h => ?_⟩⟩
  have hp : plainT (Sl.lit [[D.int 1900, .int 0, .int 0, .bool b1, Sl.d l1, .bool b2, Sl.d l2]]) (fun _ => 1900) (fun _ => Rat.divInt r 10000) := by
    refine ⟨by show (1 : Int) ≤ 400; omega, fun i i0 i1 => ?_, fun i j i0 ij j1 => ?_⟩
    · have i1 : i < 1 := i1
      have : i = 0 := by omega
      subst this
      exact ⟨⟨rfl, rfl, rfl, row_lit hq (by unfold fracQ; rw [if_neg (by omega)])⟩, by show (0 : Int) ≤ 1900; omega, by show (1900 : Int) ≤ 100000; omega⟩
    · have j1 : j < 1 := j1
      omega
  have hnat : (((1000 + n - 1000).toNat : Nat) : Int) = n := by omega
  have hs : a * sumI (fun _ => r) (1000 + n - 1000).toNat = a * r * n := by
    rw [sumI_const, hnat, ← Int.mul_assoc]
  obtain ⟨he, hv⟩ := int_eval (D := 10000) (f := fun _ => r) h ⟨⟨ra.1, by omega⟩, ⟨by omega, by omega, by omega⟩, plain_valid hp (by decide) (by simp)⟩ ⟨by omega, by omega⟩ (fun j => ⟨rr.1, by omega⟩)
    (fun j hj => plain_rate hp (Int.le_refl _) (k := 0) (Int.le_refl _) (by show (0 : Int) < 1; omega) (by show (1900 : Int) ≤ _; omega) (fun j j0 j1 => by have j1 : j < 1 := j1; omega)) (by rw [hs]; omega)
  rw [hs] at hv
  generalize a * r * n = P at *
  have d1 := Int.mul_ediv_add_emod (2 * P + 12 * 10000) (24 * 10000)
  have d2 := Int.emod_nonneg (2 * P + 12 * 10000) (show (24 * 10000 : Int) ≠ 0 by decide)
  have d3 := Int.emod_lt_of_pos (2 * P + 12 * 10000) (show (0 : Int) < 24 * 10000 by decide)
  rw [← hv] at d1
  refine ⟨by rw [rng64]; omega, by rw [rng64]; omega, by rw [rng64]; omega, by rw [rng64]; omega, by rw [rng64]; omega, fun _ => ⟨fun _ => ⟨fun _ => ⟨trivial, fun b hb => ⟨hb, trivial⟩⟩, fun k => by omega⟩, fun k => by omega⟩, fun k => absurd he k⟩

end Go.Sx.N
