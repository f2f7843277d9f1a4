/-
  The condition of IndexAdds. Conditions: none.
-/
import Derived.Test.YtjljnieafhdkgaaGreatDoorNumVWAdds
import Derived.Test.YtjljnieafhdkgaaGreatDoorIdxM
set_option linter.unusedVariables false
set_option linter.unusedSimpArgs false
namespace Go.Sx.N

theorem WAdds_ok : V_WAdds := by
  intro m _ x1 _ x2 _ x3 _ known _ _
  simp only [Bool.decide_eq_true]
  have rs : ∀ x : Int, -1000000 ≤ x → x ≤ 1000000 → Rng .i64 x := fun x a b => by rw [rng64]; omega
  refine ⟨trivial, fun b4 h4 => ⟨fun h => absurd h4 h, fun _ => ⟨trivial, fun name two s _ ⟨hn, h2, hB⟩ => ⟨trivial, fun a _ b _ hab => ?_⟩⟩⟩⟩
  obtain ⟨a0, ab, b1, ab2⟩ := hab
  refine ⟨rs _ (by omega) (by omega), rs _ (by omega) (by omega), trivial, fun d _ hd => ?_⟩
  have hd : d = if b - a + 1 < 1 then 0 else x3 % (b - a + 1) := hd
  rw [if_neg (by omega)] at hd
  have d0 : 0 ≤ d ∧ d ≤ b - a := by
    have := Int.emod_nonneg x3 (show b - a + 1 ≠ 0 by omega)
    have := Int.emod_lt_of_pos x3 (show 0 < b - a + 1 by omega)
    omega
  have s1 : spanS a (a + d) := ⟨⟨by omega, by omega⟩, by omega, by omega⟩
  have s2 : spanS (a + d) b := ⟨⟨by omega, by omega⟩, by omega, by omega⟩
  have s3 : spanS a b := ⟨⟨by omega, by omega⟩, by omega, by omega⟩
  refine ⟨rs _ (by omega) (by omega), built_name hn, fun n1 l1 rl1 k1 m1 rm1 e1 _ h1 => ⟨built_name hn, fun n2 l2 rl2 k2 m2 rm2 e2 _ hh2 => ⟨built_name hn, fun n3 l3 rl3 k3 m3 rm3 e3 _ h3 => ⟨trivial, fun t1 _ f1 _ y1 => ⟨trivial, fun t2 _ f2 _ y2 => ⟨trivial, fun t3 _ f3 _ y3 => ?_⟩⟩⟩⟩⟩⟩
  have g1 := grow_res hn h2 hB s1 h1 rl1 rm1
  have g2 := grow_res hn h2 hB s2 hh2 rl2 rm2
  have g3 := grow_res hn h2 hB s3 h3 rl3 rm3
  have u1 := y1.2 s1
  have u2 := y2.2 s2
  have u3 := y3.2 s3
  have za := u1.2
  have zb := u2.2
  have zc := u3.2
  have m1' := fY_mono (show a ≤ a + d by omega)
  have m2' := fY_mono (show a + d ≤ b by omega)
  have ba := fY_bd a
  have bb := fY_bd b
  have L1 := u1.1.1
  have L2 := u2.1.1
  have L3 := u3.1.1
  unfold imax at L1 L2 L3
  have t1l : t1.len = fY (a + d) - fY a := by split at L1 <;> omega
  have t2l : t2.len = fY b - fY (a + d) := by split at L2 <;> omega
  have t3l : t3.len = fY b - fY a := by split at L3 <;> omega
  refine ⟨rs _ (by omega) (by omega), rs _ (by omega) (by omega), fun h => absurd (by omega) h, fun _ => ⟨by omega, trivial, fun c hc => ⟨fun h => absurd (hc.2 ⟨by rw [len_app]; omega, fun i i0 i1 => ?_⟩) h, fun _ => ?_⟩⟩⟩
  · rw [len_app] at i1
    rw [u3.1.2 i i0 (by omega)]
    by_cases hi : i < t1.len
    · rw [int_app_lt i0 hi, u1.1.2 i i0 hi]
    · rw [int_app_ge (by omega), u2.1.2 _ (by omega) (by omega)]
      omega
  · have nA : (((len180 a (a + d) : Nat)) : Int) = fY (a + d) - fY a := by unfold len180; omega
    have nB : fY a + ((len180 a (a + d) : Nat) : Int) = fY (a + d) := by omega
    have nC : len180 a b = len180 a (a + d) + len180 (a + d) b := by unfold len180; omega
    have nD : len180 a (a + d) + len180 (a + d) b ≤ 180 := by rw [← nC]; exact len180_le a b
    have bad : grS s known (fY a) (len180 a b) = .err 6 → (zeroF n3 l3 k3 m3 ∧ e3 = 6) := fun h => by
      rcases g3 with ⟨_, k, k'⟩ | ⟨_, k, _⟩
      · exact ⟨k, k'⟩
      · rw [h] at k; cases k
    rcases g1 with ⟨k1', _, e1'⟩ | ⟨q1, k1', p1, _, _, i1, o1, e1'⟩
    · have e3' := (bad (by rw [nC]; exact gr_add_err k1')).2
      have e2' : 0 ≤ e2 ∧ e2 ≤ 6 := by rcases g2 with ⟨_, _, k⟩ | ⟨_, _, _, _, _, _, _, k⟩ <;> omega
      refine ⟨by rw [rng64]; omega, fun h => absurd ⟨fun k => by omega, fun k => by omega⟩ h, fun _ => ⟨fun _ => ⟨decide_eq_true e3', trivial⟩, fun h => by omega⟩⟩
    · have add := gr_add hB k1' (m := len180 (a + d) b) nD
      rw [nB, ← nC] at add
      rcases g2 with ⟨k2', _, e2'⟩ | ⟨q2, k2', p2, _, _, i2, o2, e2'⟩
      · have e3' := (bad (add.1 k2')).2
        refine ⟨by rw [rng64]; omega, fun h => absurd ⟨fun k => by omega, fun k => by omega⟩ h, fun _ => ⟨fun _ => ⟨decide_eq_true e3', trivial⟩, fun h => by omega⟩⟩
      · have k3' := add.2 q2 k2'
        rcases g3 with ⟨k, _⟩ | ⟨q3, k, _, _, f3', i3, _, e3'⟩
        · rw [k3'] at k; cases k
        · rw [k3'] at k
          cases k
          refine ⟨by rw [rng64]; omega, fun h => absurd ⟨fun k => by omega, fun k => by omega⟩ h, fun _ => ⟨fun h => absurd e3' h, fun _ => ⟨trivial, fun pn pl rpl pd pk rpk e _ hm => ?_⟩⟩⟩
          have hm := (mul_res hm i1 o1 i2 o2).1 f3'
          exact ⟨fun _ => ⟨trivial, fun r hr => ⟨same_frac hr hm.1 i3 rpl rpk rl3 rm3, trivial⟩⟩, fun h => absurd hm.2 h⟩

end Go.Sx.N
