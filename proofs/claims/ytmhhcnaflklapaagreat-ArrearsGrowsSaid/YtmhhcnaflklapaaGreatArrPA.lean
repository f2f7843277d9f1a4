/-
  The law ArrearsGrows: its condition. Conditions: none.
-/
import Derived.Test.YtmhhcnaflklapaaGreatNumVWGrows
import Derived.Test.YtmhhcnaflklapaaGreatArrFk
set_option linter.unusedVariables false
set_option linter.unusedSimpArgs false
namespace Go.Sx.N

theorem sumI_mono {f g : Nat → Int} (h : ∀ j, f j ≤ g j) : ∀ n : Nat, sumI f n ≤ sumI g n
  | 0 => Int.le_refl _
  | n + 1 => by
    have := sumI_mono h n
    have := h n
    simp only [sumI]; omega
theorem sumI_more {f : Nat → Int} (h : ∀ j, 0 ≤ f j) {n : Nat} : ∀ {m : Nat}, n ≤ m → sumI f n ≤ sumI f m
  | 0, hn => by have : n = 0 := by omega
                subst this; exact Int.le_refl _
  | m + 1, hn => by
    by_cases e : n = m + 1
    · subst e; exact Int.le_refl _
    · have := sumI_more h (n := n) (m := m) (by omega)
      have := h m
      simp only [sumI]; omega
theorem evI_mono {n S n' S' : Int} (h : n * S ≤ n' * S') : evI n S ≤ evI n' S' := by
  unfold evI
  exact Int.ediv_le_ediv (by decide) (by omega)

/-- Rates that are higher by a thousandth. -/
def higher (t u : Sl) (i : Int) : Prop := u.len = imin t.len 8 ∧ ∀ k : Int, 0 ≤ k → k < u.len → u.int k 0 = if k < i then (if t.int k 0 < 255 then t.int k 0 + 1 else t.int k 0) else t.int k 0
theorem higher_rt {t u : Sl} {i : Int} (h : higher t u i) (y : Int) : rt t y ≤ rt u y := by
  have t0 := len0 t
  unfold rt
  by_cases c : t.len ≤ 0 ∨ y < 1990
  · rw [if_pos c]
    split
    · exact Int.le_refl _
    · rename_i c2
      rcases c with c | c
      · have := h.1; unfold imin at this; split at this <;> omega
      · exact absurd (.inr c) c2
  · have e : imin u.len 8 = imin t.len 8 := by rw [h.1]; unfold imin; (repeat' split) <;> omega
    have hu : ¬ (u.len ≤ 0 ∨ y < 1990) := by rw [h.1]; unfold imin; split <;> omega
    rw [if_neg c, if_neg hu, e]
    have b : 0 ≤ imin (y - 1990) (imin t.len 8 - 1) ∧ imin (y - 1990) (imin t.len 8 - 1) < imin t.len 8 := by
      unfold imin; (repeat' split) <;> omega
    generalize imin (y - 1990) (imin t.len 8 - 1) = k at *
    rw [h.2 k b.1 (by rw [h.1]; exact b.2)]
    (repeat' split) <;> omega

theorem WGrows_ok : V_WGrows := by
  intro a ra b rb due rd x rx y ry t rt' _
  simp only [Bool.decide_eq_true]
  have ra : 0 ≤ a ∧ a ≤ 4294967295 := ra
  have rb : 0 ≤ b ∧ b ≤ 4294967295 := rb
  have rd : 0 ≤ due ∧ due ≤ 255 := rd
  have rx : 0 ≤ x ∧ x ≤ 255 := rx
  have ry : 0 ≤ y ∧ y ≤ 255 := ry
  have t0 := len0 t
  rw [Int.tmod_eq_emod_of_nonneg rd.1, Int.tmod_eq_emod_of_nonneg rx.1, Int.tmod_eq_emod_of_nonneg ry.1]
  have hd : 0 ≤ due % 100 ∧ due % 100 ≤ 99 := by omega
  have hx : 0 ≤ x % 20 ∧ x % 20 ≤ 19 := by omega
  have hy : 0 ≤ y % 20 ∧ y % 20 ≤ 19 := by omega
  generalize due % 100 = D at *
  generalize x % 20 = X at *
  generalize y % 20 = Y at *
  have m0 : 0 ≤ imin t.len 8 ∧ imin t.len 8 ≤ 8 ∧ imin t.len 8 ≤ t.len := by unfold imin; split <;> omega
  have pl : (Sl.part t 0 (imin t.len 8)).len = imin t.len 8 := by
    show (((imin t.len 8 - 0).toNat : Nat) : Int) = _; omega
  have pi : ∀ i : Int, (Sl.part t 0 (imin t.len 8)).int i 0 = t.int i 0 := fun i => by unfold Sl.int; rw [f_part0]
  rw [app_nil_left, pl]
  have lo : 0 ≤ imin a b ∧ imin a b ≤ 4294967295 := by unfold imin; split <;> omega
  have hi : 0 ≤ imax a b ∧ imax a b ≤ 4294967295 := by unfold imax; split <;> omega
  have lh : imin a b ≤ imax a b := by unfold imin imax; (repeat' split) <;> omega
  generalize imin a b = A at *
  generalize imax a b = B at *
  refine ⟨by decide, by show (0:Int) ≤ D ∧ D ≤ 255; omega, by rw [rng64]; omega, by decide, by show (0:Int) ≤ X ∧ X ≤ 255; omega, by rw [rng64]; omega, by decide, by show (0:Int) ≤ X ∧ X ≤ 255; omega, by rw [rng64]; omega, by decide, by show (0:Int) ≤ Y ∧ Y ≤ 255; omega, by rw [rng64]; omega,
    fun st => ⟨by omega, by omega, by omega, by show ((0 : Int) + imin t.len 8) * 1 ≤ _; omega, fun sp => ⟨fun i u => (0 ≤ i ∧ i ≤ imin t.len 8) ∧ higher t u i, fun i _ => (imin t.len 8 - i).toNat, ⟨⟨Int.le_refl _, m0.1⟩, pl, fun k k0 k1 => by rw [pi, if_neg (by omega)]⟩, fun i _ u ru ⟨⟨i0, i1⟩, hu⟩ => ?_⟩⟩⟩
  have hul := hu.1
  refine ⟨fun hi => ⟨i0, by omega, fun _ => ⟨fun h255 => ⟨i0, by omega, fun rv => ⟨i0, by omega, by rw [rng64]; omega, ?_, by show (imin t.len 8 - (i + 1)).toNat < (imin t.len 8 - i).toNat; omega⟩⟩, fun h255 => ⟨by rw [rng64]; omega, ⟨⟨by omega, by omega⟩, hul, fun k k0 k1 => ?_⟩, by show (imin t.len 8 - (i + 1)).toNat < (imin t.len 8 - i).toNat; omega⟩⟩⟩, fun hi => ?_⟩
  · have rv : 0 ≤ u.int i 0 ∧ u.int i 0 ≤ 255 := rv
    have e := hu.2 i i0 (by omega)
    rw [if_neg (by omega)] at e
    refine ⟨⟨by omega, by omega⟩, hul, fun k k0 k1 => ?_⟩
    have k1 : k < u.len := k1
    rw [int_upd i0 k0, wrap_id .u8 _ (show (0 : Int) ≤ _ ∧ _ ≤ (255 : Int) by omega)]
    by_cases ek : k = i
    · subst ek; rw [if_pos rfl, if_pos (by omega), if_pos (by omega), e]
    · rw [if_neg ek, hu.2 k k0 k1]
      by_cases c : k < i
      · rw [if_pos c, if_pos (show k < i + 1 by omega)]
      · rw [if_neg c, if_neg (show ¬ k < i + 1 by omega)]
  · have e := hu.2 k k0 k1
    rw [e]
    by_cases ek : k = i
    · subst ek
      rw [if_neg (by omega)] at e
      rw [if_neg (by omega), if_pos (by omega), if_neg (by omega)]
    · by_cases c : k < i
      · rw [if_pos c, if_pos (show k < i + 1 by omega)]
      · rw [if_neg c, if_neg (show ¬ k < i + 1 by omega)]
  refine ⟨trivial, fun n1 w1 s1 _ h1 => ⟨rates_name h1, fun p _ e1 _ q1 => ⟨trivial, fun n2 w2 s2 _ h2 => ⟨rates_name h2, fun q _ e2 _ q2 => ⟨trivial, fun n3 w3 s3 _ h3 => ⟨rates_name h3, fun r _ e3 _ q3 => ⟨trivial, fun n4 w4 s4 _ h4 => ⟨rates_name h4, fun s _ e4 _ q4 => ⟨trivial, fun n5 w5 s5 _ h5 => ⟨rates_name h5, fun z _ e5 _ q5 => ?_⟩⟩⟩⟩⟩⟩⟩⟩⟩⟩
  obtain ⟨rfl, hp⟩ := rates_int rt' h1 (Int.le_refl _) (by omega) (by omega) (by omega) q1
  obtain ⟨rfl, hq⟩ := rates_int rt' h2 (Int.le_refl _) (by omega) (by omega) (by omega) q2
  obtain ⟨rfl, hr⟩ := rates_int rt' h3 (Int.le_refl _) (by omega) (by omega) (by omega) q3
  obtain ⟨rfl, hs⟩ := rates_int ru h4 (Int.le_refl _) (by omega) (by omega) (by omega) q4
  obtain ⟨rfl, hz⟩ := rates_int rt' h5 (Int.le_refl _) (by omega) (by omega) (by omega) q5
  have b1 := sM_bd rt' (due := 1080 + D) (paid := 1080 + D + X) (by omega) (by omega)
  have k1 : 0 ≤ A * sM t (1080 + D) (1080 + D + X) := Int.mul_nonneg lo.1 b1.1
  have g0 : 0 ≤ p := by rw [hp]; unfold evI; exact Int.ediv_nonneg (by omega) (by omega)
  have g1 : p ≤ q := by rw [hp, hq]; exact evI_mono (Int.mul_le_mul_of_nonneg_right lh b1.1)
  have g2 : p ≤ r := by
    rw [hp, hr]
    refine evI_mono (Int.mul_le_mul_of_nonneg_left ?_ lo.1)
    exact sumI_more (fun j => (rt_bd rt' _).1) (by omega)
  have g3 : p ≤ s := by
    rw [hp, hs]
    refine evI_mono (Int.mul_le_mul_of_nonneg_left ?_ lo.1)
    exact sumI_mono (fun j => higher_rt hu _) _
  have g4 : z = 0 := by
    rw [hz]
    have : sM t (1080 + D) (1080 + D) = 0 := by unfold sM; rw [Int.sub_self]; rfl
    rw [this]; unfold evI; simp
  refine ⟨by rw [rng64]; omega, by rw [rng64]; omega, by rw [rng64]; omega, by rw [rng64]; omega, fun _ => ⟨fun _ => ⟨fun _ => ⟨fun _ => ⟨fun _ => ⟨fun _ => ⟨trivial, fun b hb => ⟨hb, trivial⟩⟩, fun k => absurd g4 k⟩, fun k => absurd g3 k⟩, fun k => absurd g2 k⟩, fun k => absurd g1 k⟩, fun k => absurd g0 k⟩, fun k => absurd rfl k⟩

end Go.Sx.N
