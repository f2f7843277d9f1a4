/-
  The condition of IndexYearsOnly. Conditions: none.
-/
import Derived.Test.YtjljnieafhdkgaaGreatDoorNumVWOnly
import Derived.Test.YtjljnieafhdkgaaGreatDoorIdxM
set_option linter.unusedVariables false
set_option linter.unusedSimpArgs false
namespace Go.Sx.N

theorem zero_same {a c a' c' : Bool} {b d b' d' : Sl} {r : Bool} (h : q_kSameFrac a b c d a' b' c' d' r) (h1 : zeroF a b c d) (h2 : zeroF a' b' c' d') : r = true :=
  h.2 ⟨⟨h1.1.trans h2.1.symm, h1.2.1.trans h2.2.1.symm, fun i i0 i1 => by have := h1.2.1; omega⟩, h1.2.2.1.trans h2.2.2.1.symm, h1.2.2.2.trans h2.2.2.2.symm, fun i i0 i1 => by have := h1.2.2.2; omega⟩

theorem fY_first {a : Int} (h : fY a ≤ 2079) : fY (dayS (fY a)) = fY a := by
  have b := fY_bd a
  refine fY_eq b.1 h ?_ (by omega)
  rcases Int.lt_or_le 1900 (fY a) with k | k
  · right
    have := dayS_lt (y := fY a - 1) (z := fY a) (by omega) (by omega)
    omega
  · left; omega

theorem fY_last {b : Int} (h : 1901 ≤ fY b) : fY (dayS (fY b - 1) + 1) = fY b := by
  have bd := fY_bd b
  rcases Int.lt_or_le (fY b) 2080 with k | k
  · refine fY_eq (by omega) (by omega) (.inr (by omega)) ?_
    have := dayS_lt (y := fY b - 1) (z := fY b) (by omega) (by omega)
    omega
  · have e : fY b = 2080 := by omega
    rw [e]
    have := fY_bd (dayS (2080 - 1) + 1)
    have := (fY_spec (dayS (2080 - 1) + 1) (y := 2079) (by omega) (by omega)).1 (by show dayS 2079 < dayS 2079 + 1; omega)
    omega

theorem WOnly_ok : V_WOnly := by
  intro m _ x1 _ x2 _ known _ _
  simp only [Bool.decide_eq_true]
  have rs : ∀ x : Int, -1000000 ≤ x → x ≤ 1000000 → Rng .i64 x := fun x a b => by rw [rng64]; omega
  refine ⟨trivial, fun b4 h4 => ⟨fun h => absurd h4 h, fun _ => ⟨trivial, fun name two s _ ⟨hn, h2, hB⟩ => ⟨trivial, fun a _ b _ hab => ⟨trivial, fun ys _ ye _ hy => ⟨built_name hn, fun n1 l1 rl1 k1 m1 rm1 e1 _ h1 => ⟨built_name hn, fun n2 l2 rl2 k2 m2 rm2 e2 _ hh2 => ?_⟩⟩⟩⟩⟩⟩⟩
  obtain ⟨sp, sp2, le⟩ := asked_span hab
  have g1 := grow_res hn h2 hB sp h1 rl1 rm1
  have hy := hy.2 sp
  have ml := fY_mono le
  have ba := fY_bd a
  have bb := fY_bd b
  have yl : ys.len = fY b - fY a := by
    have := hy.1.1
    unfold imax at this
    split at this <;> omega
  have body : V_WOnly_0 m x1 x2 known name two s a b ys n1 l1 k1 m1 e1 := by
    unfold V_WOnly_0
    simp only [Bool.decide_eq_true]
    refine fun _ => ⟨fun h0 => ?_, fun h0 => ?_⟩
    · have e0 : len180 a b = 0 := by unfold len180; omega
      rw [e0] at g1
      rcases g1 with ⟨k, _⟩ | ⟨q, k, _, _, _, i1, _, z⟩
      · cases k
      · cases k
        exact ⟨fun _ => ⟨trivial, fun on ol rol od ok rok ho => ⟨trivial, fun r hr => ⟨same_frac hr i1 ho.1 rl1 rm1 rol rok, trivial⟩⟩⟩, fun h => absurd z h⟩
    · have yl0 := len0 ys
      have f0 : ys.int 0 0 = fY a := by rw [hy.1.2 0 (by omega) (by omega)]; omega
      have f1 : ys.int (ys.len - 1) 0 = fY b - 1 := by rw [hy.1.2 _ (by omega) (by omega)]; omega
      refine ⟨Int.le_refl _, by omega, fun _ => ⟨⟨rfl, rfl⟩, fun d1 _ de1 _ hd1 => fun _ => ⟨rs _ (by omega) (by omega), by omega, by omega, fun _ => ⟨⟨rfl, rfl⟩, fun d2 _ de2 _ hd2 => ?_⟩⟩⟩⟩
      rw [f0] at hd1
      rw [f1] at hd2
      obtain ⟨D1, E1⟩ := hd1.2 ⟨by omega, by omega⟩
      obtain ⟨D2, E2⟩ := hd2.2 ⟨by omega, by omega⟩
      have t1 := dayS_bd (y := fY a) (by omega) (by omega)
      have t2 := dayS_bd (y := fY b - 1) (by omega) (by omega)
      have t3 := dayS_top (y := fY a) (by omega) (by omega)
      have t4 := dayS_top (y := fY b - 1) (by omega) (by omega)
      have F1 : fY d1 = fY a := by rw [D1]; exact fY_first (by omega)
      have F2 : fY (d2 + 1) = fY b := by rw [D2]; exact fY_last (by omega)
      refine ⟨rs _ (by omega) (by omega), built_name hn, fun n3 l3 rl3 k3 m3 rm3 e3 _ h3 _ => ?_⟩
      have sp3 : spanS d1 (d2 + 1) := ⟨⟨by omega, by omega⟩, by omega, by omega⟩
      have g3 := grow_res hn h2 hB sp3 h3 rl3 rm3
      have el : len180 d1 (d2 + 1) = len180 a b := by unfold len180; rw [F1, F2]
      rw [el, F1] at g3
      refine ⟨fun i => 0 ≤ i ∧ i ≤ ys.len, fun i => (ys.len - i).toNat, ⟨Int.le_refl _, by omega⟩, fun i _ ⟨i0, i1⟩ => ⟨fun hi => ⟨i0, hi, fun _ => ⟨fun hp => ⟨rs _ (by omega) (by omega), by omega, by omega, fun _ => ?_⟩, fun _ => ⟨rs _ (by omega) (by omega), ⟨by omega, by omega⟩, by show (ys.len - (i + 1)).toNat < (ys.len - i).toNat; omega⟩⟩⟩, fun hi => ?_⟩⟩
      · have v1 := hy.1.2 i i0 hi
        have v2 := hy.1.2 (i - 1) (by omega) (by omega)
        exact ⟨rs _ (by omega) (by omega), fun h => absurd (by omega) h, fun _ => ⟨rs _ (by omega) (by omega), ⟨by omega, by omega⟩, by show (ys.len - (i + 1)).toNat < (ys.len - i).toNat; omega⟩⟩
      · have v1 : ¬ dayS (fY a) < a := fun h => by have := (fY_spec a (y := fY a) (by omega) (by omega)).1 h; omega
        have v2 : dayS (fY b - 1) < b := (fY_spec b (y := fY b - 1) (by omega) (by omega)).2 (by omega)
        refine ⟨rs _ (by omega) (by omega), fun _ => ⟨fun _ => ⟨fun _ => ⟨fun _ => ⟨trivial, fun r hr => ⟨?_, trivial⟩⟩, fun h => absurd ?_ h⟩, fun h => absurd (by omega) h⟩, fun h => absurd (by omega) h⟩, fun h => absurd (by omega) h⟩
        · rcases g1 with ⟨k, z, _⟩ | ⟨q, k, _, _, _, i1, _, z⟩
          · rcases g3 with ⟨_, z', _⟩ | ⟨_, k', _⟩
            · exact zero_same hr z z'
            · rw [k] at k'; cases k'
          · rcases g3 with ⟨k', _⟩ | ⟨_, k', _, _, _, i3, _, z'⟩
            · rw [k] at k'; cases k'
            · rw [k] at k'
              cases k'
              exact same_frac hr i1 i3 rl1 rm1 rl3 rm3
        · rcases g1 with ⟨k, _, z⟩ | ⟨q, k, _, _, _, _, _, z⟩
          · rcases g3 with ⟨_, _, z'⟩ | ⟨_, k', _⟩
            · omega
            · rw [k] at k'; cases k'
          · rcases g3 with ⟨k', _⟩ | ⟨_, k', _, _, _, _, _, z'⟩
            · rw [k] at k'; cases k'
            · omega
  refine ⟨fun h => absurd hy.2 h, fun _ => ⟨fun hlt => ?_, fun _ => body⟩⟩
  have g2 := grow_res hn h2 hB sp2 hh2 rl2 rm2
  have e0 : len180 b a = 0 := by unfold len180; omega
  rw [e0] at g2
  rcases g2 with ⟨k, _⟩ | ⟨q, k, _, _, _, i2, _, z⟩
  · cases k
  · cases k
    exact ⟨fun h => absurd z h, fun _ => ⟨trivial, fun on ol rol od ok rok ho => ⟨trivial, fun r hr => ⟨fun h => absurd (same_frac hr i2 ho.1 rl2 rm2 rol rok) h, fun _ => body⟩⟩⟩⟩

end Go.Sx.N
