/-
  The condition of TaxAnew. Conditions: none.
-/
import Derived.Test.YtedajccdbdlaoaaGreatNumVAnew
import Derived.Test.YtedajccdbdlaoaaGreatTaxPE
set_option linter.unusedVariables false
set_option linter.unusedSimpArgs false
namespace Go.Sx.N

/-- Two scales, each from a year on. -/
def year2 (x y : Int) (l k : Sl) : Sl := Sl.lit [[.int x, Sl.d l], [.int y, Sl.d k]]
theorem year2_valid {x y : Int} {l k : Sl} (h : validS l) (g : validS k) (hxy : x < y) : validY (year2 x y l k) := by
  have e : (year2 x y l k).len = 2 := rfl
  refine ⟨fun i i0 i1 => ?_, fun i i0 i1 => ?_⟩
  · rcases (show i = 0 ∨ i = 1 by omega) with rfl | rfl
    · exact h
    · exact g
  · have : i = 1 := by omega
    subst this
    exact hxy
theorem year2_appl0 {x y year : Int} {l k : Sl} (h : x ≤ year) (g : year < y) : Appl (year2 x y l k) year 0 := by
  have e : (year2 x y l k).len = 2 := rfl
  refine ⟨by omega, by omega, h, fun j j0 j1 => ?_⟩
  have : j = 1 := by omega
  subst this
  exact g
theorem year2_appl1 {x y year : Int} {l k : Sl} (h : y ≤ year) : Appl (year2 x y l k) year 1 := by
  have e : (year2 x y l k).len = 2 := rfl
  exact ⟨by omega, by omega, h, fun j j0 j1 => by omega⟩

theorem Anew_ok : V_Anew := by
  intro l _ k _ i2 _ i3 _ i4 _ i5 _ i6 _ _
  simp only [Bool.decide_eq_true]
  refine ⟨trivial, fun b hb => ⟨fun h => absurd hb h, fun _ => ⟨trivial, fun c0 _ => ⟨fun _ => ⟨rfl, trivial⟩, fun _ => ⟨trivial, fun c1 _ => ⟨fun _ => ⟨rfl, trivial⟩, fun _ => ⟨trivial, fun d0 hd0 => ⟨fun _ => ⟨rfl, trivial⟩, fun hv0 => ⟨trivial, fun d1 hd1 => ⟨fun _ => ⟨rfl, trivial⟩, fun hv1 => ?_⟩⟩⟩⟩⟩⟩⟩⟩⟩⟩
  have vl := hd0.1 (Classical.not_not.1 hv0)
  have vk := hd1.1 (Classical.not_not.1 hv1)
  refine ⟨fun M G T => (0 ≤ M ∧ M < 2100) ∧ (0 ≤ G ∧ G < 549755813888) ∧ 0 ≤ T ∧ T < 1099511627776, ?_, fun M _ G _ T _ hJ => ⟨trivial, fun a _ ha => ⟨trivial, fun b' _ hb' => ?_⟩⟩⟩
  · have tl : ∀ M, q_kPick i2 2100 M → ∀ G, Rng .i64 G → q_kPick i3 549755813888 G → p_kPick i4 1099511627776 ∧ ∀ T, Rng .i64 T → q_kPick i4 1099511627776 T → (0 ≤ M ∧ M < 2100) ∧ (0 ≤ G ∧ G < 549755813888) ∧ 0 ≤ T ∧ T < 1099511627776 :=
      fun M hM G _ hG => ⟨trivial, fun T _ hT => ⟨pick_bd hM (by decide), pick_bd hG (by decide), pick_bd hT (by decide)⟩⟩
    have k0 : ∀ M, q_kPick i2 2100 M → V_Anew_0 i3 i4 (fun M G T => (0 ≤ M ∧ M < 2100) ∧ (0 ≤ G ∧ G < 549755813888) ∧ 0 ≤ T ∧ T < 1099511627776) M := fun M hM => ⟨trivial, tl M hM⟩
    have k1 : ∀ M, q_kPick i2 2100 M → V_Anew_1 i3 i4 (fun M G T => (0 ≤ M ∧ M < 2100) ∧ (0 ≤ G ∧ G < 549755813888) ∧ 0 ≤ T ∧ T < 1099511627776) M := fun M hM => ⟨k0 M hM, k0 M hM⟩
    have k2 : ∀ M, q_kPick i2 2100 M → V_Anew_2 i3 i4 (fun M G T => (0 ≤ M ∧ M < 2100) ∧ (0 ≤ G ∧ G < 549755813888) ∧ 0 ≤ T ∧ T < 1099511627776) M := fun M hM => ⟨trivial, tl M hM⟩
    have k3 : ∀ M, q_kPick i2 2100 M → V_Anew_3 i3 i4 (fun M G T => (0 ≤ M ∧ M < 2100) ∧ (0 ≤ G ∧ G < 549755813888) ∧ 0 ≤ T ∧ T < 1099511627776) M := fun M hM => ⟨trivial, tl M hM⟩
    have k4 : V_Anew_4 i2 i3 i4 (fun M G T => (0 ≤ M ∧ M < 2100) ∧ (0 ≤ G ∧ G < 549755813888) ∧ 0 ≤ T ∧ T < 1099511627776) := ⟨⟨trivial, fun M _ hM => ⟨k3 M hM, k3 M hM⟩⟩, ⟨trivial, fun M _ hM => k3 M hM⟩⟩
    have k5 : V_Anew_5 i2 i3 i4 (fun M G T => (0 ≤ M ∧ M < 2100) ∧ (0 ≤ G ∧ G < 549755813888) ∧ 0 ≤ T ∧ T < 1099511627776) := ⟨trivial, fun M _ hM => ⟨trivial, tl M hM⟩⟩
    have k6 : V_Anew_6 i2 i3 i4 (fun M G T => (0 ≤ M ∧ M < 2100) ∧ (0 ≤ G ∧ G < 549755813888) ∧ 0 ≤ T ∧ T < 1099511627776) := ⟨k5, k5⟩
    have k7 : V_Anew_7 i2 i3 i4 (fun M G T => (0 ≤ M ∧ M < 2100) ∧ (0 ≤ G ∧ G < 549755813888) ∧ 0 ≤ T ∧ T < 1099511627776) := ⟨trivial, fun M _ hM => k3 M hM⟩
    exact ⟨⟨⟨trivial, fun M _ hM => ⟨k1 M hM, k2 M hM⟩⟩, ⟨k4, k6⟩⟩, ⟨⟨k4, k7⟩, ⟨k6, k7⟩⟩⟩
  obtain ⟨⟨M0, M1⟩, ⟨G0, G1⟩, T0, T1⟩ := hJ
  have ha := pick_bd ha (by decide)
  have hb' := pick_bd hb' (by decide)
  have e1 : Int.tdiv M 12 = M / 12 := tdiv12 M0
  have e2 : Int.tdiv (12 * (M / 12 + 1)) 12 = M / 12 + 1 := by rw [tdiv12 (by omega)]; omega
  rw [e1, e2]
  have vy : validY (year2 1900 (1900 + (M / 12 + 1)) l k) := year2_valid vl vk (by omega)
  refine ⟨by decide, by rw [rng64]; omega, by rw [rng64]; omega, by rw [rng64]; omega, by decide, by rw [rng64]; omega, by rw [rng64]; omega, by rw [rng64]; omega, trivial,
    fun r1 _ m1 _ g1 _ t1 _ q1 _ h1 => ⟨trivial, fun du _ q2 _ h2 => ?_⟩⟩
  have h1 : held (year2 1900 (1900 + (M / 12 + 1)) l k) M G T (12 * (M / 12 + 1) + 5) a r1 m1 g1 t1 q1 := h1
  have n1 : ∀ z : Int, goes M (12 * (M / 12 + 1) + 5) z = 0 := fun z => by unfold goes; rw [if_neg (by omega)]
  have s1 := (h1.2 ⟨vy, ⟨by omega, by omega⟩, ⟨by omega, by omega⟩, ⟨by omega, by omega⟩, ⟨by omega, by omega⟩, ⟨by omega, by omega⟩⟩).2 1 (year2_appl1 (by omega))
  rw [n1, n1, show (12 * (M / 12 + 1) + 5) % 12 + 1 = 6 by omega, show (year2 1900 (1900 + (M / 12 + 1)) l k).sub 1 1 = k from rfl] at s1
  obtain ⟨u1, u2, u3, u4, u5⟩ := s1.2 (by omega)
  rw [Int.zero_add] at u2
  obtain ⟨w1, w2⟩ := h2.1 ⟨vk, ⟨by decide, by decide⟩, ⟨by omega, by omega⟩⟩
  rw [u2, ← w1] at u3
  refine ⟨fun h => absurd u5 h, fun _ => ⟨fun h => absurd w2 h, fun _ => ⟨fun h => absurd (by omega) h, fun _ => ⟨by rw [rng64]; omega, fun h => absurd ⟨u1, u2, u3⟩ h, fun _ => ⟨trivial, fun r3 _ m3 _ g3 _ t3 _ q3 _ h3 => ⟨trivial, fun r4 _ m4 _ g4 _ t4 _ q4 _ h4 => ⟨by rw [rng64]; omega, trivial, fun r5 _ m5 _ g5 _ t5 _ q5 _ h5 => ?_⟩⟩⟩⟩⟩⟩⟩
  have gs : ∀ z : Int, goes M M z = z := fun z => by unfold goes; rw [if_pos rfl]
  have ap : Appl (year2 1900 (1900 + (M / 12 + 1)) l k) (1900 + M / 12) 0 := year2_appl0 (by omega) (by omega)
  have sb : (year2 1900 (1900 + (M / 12 + 1)) l k).sub 0 1 = l := rfl
  have m12 : 1 ≤ M % 12 + 1 ∧ M % 12 + 1 ≤ 12 := by omega
  have h3 : held (year2 1900 (1900 + (M / 12 + 1)) l k) M G T M a r3 m3 g3 t3 q3 := h3
  have s3 := (h3.2 ⟨vy, ⟨by omega, by omega⟩, ⟨by omega, by omega⟩, ⟨by omega, by omega⟩, ⟨by omega, by omega⟩, ⟨by omega, by omega⟩⟩).2 0 ap
  rw [gs, gs, sb] at s3
  obtain ⟨a1, a2, a3, a4, a5⟩ := s3.2 (by omega)
  have b3 := due_bounds (l := l) (m := M % 12 + 1) (A := g3) vl m12 ⟨by omega, by omega⟩
  rw [← a3] at b3
  have h4 : held (year2 1900 (1900 + (M / 12 + 1)) l k) m3 g3 t3 M b' r4 m4 g4 t4 q4 := h4
  rw [a1] at h4
  have s4 := (h4.2 ⟨vy, ⟨by omega, by omega⟩, ⟨by omega, by omega⟩, ⟨by omega, by omega⟩, ⟨by omega, by omega⟩, ⟨by omega, by omega⟩⟩).2 0 ap
  rw [gs, gs, sb] at s4
  obtain ⟨c1, c2, c3, c4, c5⟩ := s4.2 (by omega)
  have b4 := due_bounds (l := l) (m := M % 12 + 1) (A := g4) vl m12 ⟨by omega, by omega⟩
  rw [← c3] at b4
  have h5 : held (year2 1900 (1900 + (M / 12 + 1)) l k) M G T M (a + b') r5 m5 g5 t5 q5 := h5
  have s5 := (h5.2 ⟨vy, ⟨by omega, by omega⟩, ⟨by omega, by omega⟩, ⟨by omega, by omega⟩, ⟨by omega, by omega⟩, ⟨by omega, by omega⟩⟩).2 0 ap
  rw [gs, gs, sb] at s5
  obtain ⟨f1, f2, f3, f4, f5⟩ := s5.2 (by omega)
  have eg : g4 = g5 := by omega
  rw [eg, ← f3] at c3
  refine ⟨by rw [rng64]; omega, by rw [rng64]; omega, fun _ => ⟨fun _ => ⟨by rw [rng64]; omega, fun _ => ⟨by rw [rng64]; omega, ?_, trivial⟩, fun h => absurd (by omega) h⟩, fun h => absurd ⟨by omega, by omega, by omega⟩ h⟩, fun h => absurd (by omega) h⟩
  show decide (r5 = t5 - T) = true
  rw [decide_eq_true_eq]; omega

end Go.Sx.N
