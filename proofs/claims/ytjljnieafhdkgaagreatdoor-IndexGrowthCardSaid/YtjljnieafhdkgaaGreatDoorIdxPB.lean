/-
  The condition of IndexGrowth. Conditions: none.
-/
import Derived.Test.YtjljnieafhdkgaaGreatDoorNumVWGrowth
import Derived.Test.YtjljnieafhdkgaaGreatDoorIdxM
set_option linter.unusedVariables false
set_option linter.unusedSimpArgs false
namespace Go.Sx.N

theorem WGrowth_ok : V_WGrowth := by
  intro m _ x1 _ x2 _ known _ _
  simp only [Bool.decide_eq_true]
  refine ⟨trivial, fun b4 h4 => ⟨fun h => absurd h4 h, fun _ => ⟨trivial, fun name two s _ ⟨hn, h2, hB⟩ => ⟨trivial, fun a _ b _ hab => ⟨built_name hn, fun en el rel ed ek rek e _ hG => ⟨trivial, fun on ol rol od ok rok ho => ?_⟩⟩⟩⟩⟩⟩
  obtain ⟨sp, _, le⟩ := asked_span hab
  have hg := grow_res hn h2 hB sp hG rel rek
  have ht := built_valid hn h2 hB
  have hrow := built_rows hB
  refine ⟨fun x gn gl gd gk => (1900 ≤ x ∧ x ≤ 2080) ∧ ∃ q, grS s known (fY a) (grN a b x) = .ok q ∧ IsQ q gn gl gd gk, fun x _ _ _ _ => (2080 - x).toNat, ⟨⟨by omega, by omega⟩, 1, by rw [grN_0]; rfl, ho.1⟩, fun y _ gn gl rgl gd gk rgk hJ => ?_⟩
  obtain ⟨⟨y0, y1⟩, q, hq, hQ⟩ := hJ
  have og : okF gn gl gd gk := hQ.ok (ranged16 rgl) (ranged16 rgk) (grS_ok hq)
  refine ⟨fun hy => ⟨⟨rfl, rfl⟩, fun d _ de _ hd => ⟨fun he => absurd (hd.2 ⟨y0, hy⟩).2 he, fun _ => ?_⟩⟩, fun hy => ?_⟩
  · have hdd : d = dayS y := (hd.2 ⟨y0, hy⟩).1
    refine ⟨fun h5 => ?_, fun h5 => ⟨fun h6 => ?_, fun h6 => ?_⟩⟩
    · have ya : y < fY a := (fY_spec a y0 hy).1 (by omega)
      unfold V_WGrowth_0
      simp only [Bool.decide_eq_true]
      exact ⟨by rw [rng64]; omega, ⟨⟨by omega, by omega⟩, q, by rw [grN_before ya]; exact hq, hQ⟩, by omega⟩
    · have yb : fY b ≤ y := by have := fY_spec b y0 hy; omega
      unfold V_WGrowth_0
      simp only [Bool.decide_eq_true]
      exact ⟨by rw [rng64]; omega, ⟨⟨by omega, by omega⟩, q, by rw [grN_end (by omega)]; rw [grN_end yb] at hq; exact hq, hQ⟩, by omega⟩
    · have ya : fY a ≤ y := by have := fY_spec a y0 hy; omega
      have yb : y < fY b := (fY_spec b y0 hy).1 (by omega)
      obtain ⟨n1, n2, n3, n4⟩ := grN_in ya yb
      rw [n1] at hq
      refine ⟨built_name hn, fun vn vl rvl vd vk rvk le _ hl => ?_⟩
      rcases look_rate hl ht hrow rvl rvk with ⟨r1, _, r3⟩ | ⟨r, r1, r2, r3, r4, r5⟩
      · have bad : grS s known (fY a) (len180 a b) = .err 6 := grS_err (grS_none hq (by rw [n4]; exact r1)) n3
        rcases hg with ⟨_, z, e6⟩ | ⟨p, k, _⟩
        · refine ⟨fun _ => ⟨fun _ => ⟨trivial, fun x _ hx => ⟨?_, trivial⟩⟩, fun h => absurd (e6.trans r3.symm) h⟩, fun h => absurd r3 (by have := Classical.not_not.1 h; omega)⟩
          have hx : x = el.len + ek.len := hx
          rw [z.2.1, z.2.2.2] at hx
          exact decide_eq_true hx
        · rw [bad] at k; cases k
      · have nx := gr_next hB (show (y - fY a).toNat + 1 ≤ 180 by have := len180_le a b; unfold len180 at this; omega) hq (by rw [n4]; exact r1)
        have w1 : ∀ (n1' : Bool) (l1 : Sl) (n2' : Bool) (l2 : Sl), Ranged l1 [some .u16] → Ranged l2 [some .u16] → q_iOne n1' l1 n2' l2 → V_WGrowth_1 m x1 x2 known (fun x gn gl gd gk => (1900 ≤ x ∧ x ≤ 2080) ∧ ∃ q, grS s known (fY a) (grN a b x) = .ok q ∧ IsQ q gn gl gd gk) (fun x _ _ _ _ => (2080 - x).toNat) y gn gl gd gk vn vl vd vk n1' l1 n2' l2 := fun n1' l1 n2' l2 r1' r2' h1 => by
          unfold V_WGrowth_1
          simp only [Bool.decide_eq_true]
          refine ⟨trivial, fun sn sl rsl sd sk rsk e1 _ hs => ⟨trivial, fun tn tl rtl td tk rtk e2 _ hm => ?_⟩⟩
          have s1 := (add_res hs h1.1 (h1.1.ok (ranged16 r1') (ranged16 r2') one_fit) r2 r4).1 nx.2.1
          have t1 := (mul_res hm hQ og s1.1 (s1.1.ok (ranged16 rsl) (ranged16 rsk) nx.2.1)).1 nx.2.2
          have z1 := s1.2
          have z2 := t1.2
          refine ⟨by rw [rng64]; omega, fun h => by omega, fun _ => ⟨by rw [rng64]; omega, ⟨⟨by omega, by omega⟩, q * (1 + r), by rw [n2]; exact nx.1, t1.1⟩, by omega⟩⟩
        refine ⟨fun h => absurd r5 h, fun _ => ⟨⟨trivial, fun n1' l1 rl1 n2' l2 rl2 h1 => ⟨w1 n1' l1 n2' l2 rl1 rl2 h1, w1 n1' l1 n2' l2 rl1 rl2 h1⟩⟩, trivial, fun n1' l1 rl1 n2' l2 rl2 h1 => w1 n1' l1 n2' l2 rl1 rl2 h1⟩⟩
  · have hyb : fY b ≤ y := by have := fY_bd b; omega
    rw [grN_end hyb] at hq
    rcases hg with ⟨k, _, _⟩ | ⟨p, k, _, _, _, hp, _, e0⟩
    · unfold len180 at k
      rw [k] at hq; cases hq
    · unfold len180 at k
      rw [k] at hq
      cases hq
      exact ⟨fun _ => ⟨trivial, fun c hc => ⟨same_frac hc hp hQ rel rek rgl rgk, trivial⟩⟩, fun h => absurd e0 h⟩

end Go.Sx.N
