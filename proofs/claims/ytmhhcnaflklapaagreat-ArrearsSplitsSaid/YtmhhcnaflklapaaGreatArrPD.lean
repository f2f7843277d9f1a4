/-
  The law ArrearsSplits: its condition. Conditions: none.
-/
import Derived.Test.YtmhhcnaflklapaaGreatNumVSplits
import Derived.Test.YtmhhcnaflklapaaGreatArrFk
set_option linter.unusedVariables false
set_option linter.unusedSimpArgs false
namespace Go.Sx.N

theorem sumI_app {f g : Nat → Int} {n : Nat} (h : ∀ j, g j = f (n + j)) : ∀ m : Nat, sumI f (n + m) = sumI f n + sumI g m
  | 0 => by simp [sumI]
  | m + 1 => by
    show sumI f (n + m) + f (n + m) = sumI f n + (sumI g m + g m)
    rw [sumI_app h m, h m]; omega
theorem sM_app (t : Sl) {a b c : Int} (h1 : a ≤ b) (h2 : b ≤ c) : sM t a c = sM t a b + sM t b c := by
  unfold sM
  rw [show (c - a).toNat = (b - a).toNat + (c - b).toNat by omega]
  refine sumI_app (fun j => ?_) _
  unfold rM
  rw [show a + (((b - a).toNat + j : Nat) : Int) = b + j by omega]

theorem Splits_ok : V_Splits := by
  intro a ra b rb due rd x rx y ry t rt' _
  simp only [Bool.decide_eq_true]
  have ra : 0 ≤ a ∧ a ≤ 4294967295 := ra
  have rb : 0 ≤ b ∧ b ≤ 4294967295 := rb
  have rd : 0 ≤ due ∧ due ≤ 255 := rd
  have rx : 0 ≤ x ∧ x ≤ 255 := rx
  have ry : 0 ≤ y ∧ y ≤ 255 := ry
  rw [Int.tmod_eq_emod_of_nonneg rd.1, Int.tmod_eq_emod_of_nonneg rx.1, Int.tmod_eq_emod_of_nonneg ry.1]
  have hd : 0 ≤ due % 100 ∧ due % 100 ≤ 99 := by omega
  have hx : 0 ≤ x % 20 ∧ x % 20 ≤ 19 := by omega
  have hy : 0 ≤ y % 20 ∧ y % 20 ≤ 19 := by omega
  generalize due % 100 = D at *
  generalize x % 20 = X at *
  generalize y % 20 = Y at *
  refine ⟨by decide, by show (0:Int) ≤ D ∧ D ≤ 255; omega, by rw [rng64]; omega, by decide, by show (0:Int) ≤ X ∧ X ≤ 255; omega, by rw [rng64]; omega, by decide, by show (0:Int) ≤ Y ∧ Y ≤ 255; omega, by rw [rng64]; omega, trivial, fun name two s rs h => ?_⟩
  have nm := rates_name h
  refine ⟨nm, fun p _ e1 _ h1 => ⟨nm, fun q _ e2 _ h2 => ⟨by rw [rng64]; omega, nm, fun both _ e3 _ h3 => ⟨nm, fun one _ e4 _ h4 => ⟨nm, fun two' _ e5 _ h5 => ?_⟩⟩⟩⟩⟩
  obtain ⟨rfl, hp⟩ := rates_int rt' h (Int.le_refl _) (by omega) (by omega) (by omega) h1
  obtain ⟨rfl, hq⟩ := rates_int rt' h (Int.le_refl _) (by omega) (by omega) (by omega) h2
  obtain ⟨rfl, hb⟩ := rates_int rt' h (Int.le_refl _) (by omega) (by omega) (by omega) h3
  obtain ⟨rfl, ho⟩ := rates_int rt' h (Int.le_refl _) (by omega) (by omega) (by omega) h4
  obtain ⟨rfl, ht⟩ := rates_int rt' h (Int.le_refl _) (by omega) (by omega) (by omega) h5
  have sa := sM_app t (a := 1080 + D) (b := 1080 + D + X) (c := 1080 + D + X + Y) (by omega) (by omega)
  have b1 := sM_bd rt' (due := 1080 + D) (paid := 1080 + D + X) (by omega) (by omega)
  have b2 := sM_bd rt' (due := 1080 + D + X) (paid := 1080 + D + X + Y) (by omega) (by omega)
  rw [sa] at hp hq hb
  generalize sM t (1080 + D) (1080 + D + X) = S at *
  generalize sM t (1080 + D + X) (1080 + D + X + Y) = T at *
  have k1 : 0 ≤ a * S ∧ a * S ≤ 4294967295 * 10200 := ⟨Int.mul_nonneg ra.1 b1.1, Int.mul_le_mul ra.2 b1.2 b1.1 (by omega)⟩
  have k2 : 0 ≤ a * T ∧ a * T ≤ 4294967295 * 10200 := ⟨Int.mul_nonneg ra.1 b2.1, Int.mul_le_mul ra.2 b2.2 b2.1 (by omega)⟩
  have k3 : 0 ≤ b * S ∧ b * S ≤ 4294967295 * 10200 := ⟨Int.mul_nonneg rb.1 b1.1, Int.mul_le_mul rb.2 b1.2 b1.1 (by omega)⟩
  have k4 : 0 ≤ b * T ∧ b * T ≤ 4294967295 * 10200 := ⟨Int.mul_nonneg rb.1 b2.1, Int.mul_le_mul rb.2 b2.2 b2.1 (by omega)⟩
  unfold evI at *
  have e1 : a * (S + T) = a * S + a * T := Int.mul_add _ _ _
  have e2 : b * (S + T) = b * S + b * T := Int.mul_add _ _ _
  have e3 : (a + b) * (S + T) = a * S + a * T + (b * S + b * T) := by rw [Int.add_mul, e1, e2]
  rw [e1] at hp
  rw [e2] at hq
  rw [e3] at hb
  generalize a * S = A1 at *
  generalize a * T = A2 at *
  generalize b * S = B1 at *
  generalize b * T = B2 at *
  refine ⟨by rw [rng64]; omega, by rw [rng64]; omega, by rw [rng64]; omega, by rw [rng64]; omega, by rw [rng64]; omega, by rw [rng64]; omega, by rw [rng64]; omega, by rw [rng64]; omega, fun _ => ⟨fun _ => ⟨fun _ => ⟨fun _ => ⟨fun _ => ⟨trivial, fun b hb => ⟨hb, trivial⟩⟩, fun k => by omega⟩, fun k => by omega⟩, fun k => by omega⟩, fun k => by omega⟩, fun k => absurd rfl k⟩

end Go.Sx.N
