/-
  The condition of TaxFlat. Conditions: none.
-/
import Derived.Test.YtedajccdbdlaoaaGreatNumVFlat
import Derived.Test.YtedajccdbdlaoaaGreatTaxPE
set_option linter.unusedVariables false
set_option linter.unusedSimpArgs false
namespace Go.Sx.N

section
variable {x : Int} {a c : Bool} {b d : Sl}
theorem rowB_valid (hx : 0 ≤ x ∧ x ≤ 1099511627776) (h : okR a b c d) : validS (rowB x a b c d) := by
  have l1 : (rowB x a b c d).len = 1 := rfl
  refine ⟨by omega, fun i i0 i1 => ?_, fun i i0 i1 => by omega⟩
  have : i = 0 := by omega
  subst this
  exact ⟨hx, h⟩
theorem rowB_TT {m A : Int} : TT (rowB x a b c d) m A = (PI (rowB x a b c d) m A 0 : Rat) * fq a b d / 12 := by
  have l1 : (rowB x a b c d).len.toNat = 1 := rfl
  have e1 : rp (rowB x a b c d) ((0 : Nat) : Int) = 0 := rfl
  have e2 : rq (rowB x a b c d) ((0 : Nat) : Int) = fq a b d := rfl
  unfold TT
  rw [l1]
  simp only [TN]
  rw [e1, e2]
  show (0 + (PI (rowB x a b c d) m A 0 : Rat) * (fq a b d - 0)) / 12 = _
  grind
theorem rowB_PI {m A : Int} : PI (rowB x a b c d) m A 0 = if 12 * A - x * m ≤ 0 then 0 else 12 * A - x * m := rfl
end

theorem nil_valid : validS Sl.nil := by
  have l0 : Sl.nil.len = 0 := rfl
  exact ⟨by omega, fun i i0 i1 => by omega, fun i i0 i1 => by omega⟩
theorem nil_TT {m A : Int} : TT Sl.nil m A = 0 := by
  have l0 : Sl.nil.len.toNat = 0 := rfl
  unfold TT
  rw [l0]
  simp only [TN]
  grind

theorem le_div {a b c : Rat} (hc : 0 < c) : a ≤ b / c ↔ a * c ≤ b := by rw [← Rat.not_lt, Rat.div_lt_iff hc, Rat.not_lt]
theorem div_le {a b c : Rat} (hc : 0 < c) : b / c ≤ a ↔ b ≤ a * c := by rw [← Rat.not_lt, Rat.lt_div_iff hc, Rat.not_lt]
theorem floor_frac {A n d : Int} (hd : 0 < d) : ((A : Rat) * ((n : Rat) / (d : Rat))).floor = A * n / d := by
  have e : (A : Rat) * ((n : Rat) / (d : Rat)) = ((A * n : Int) : Rat) / (d : Rat) := by
    rw [Rat.intCast_mul, Rat.div_def, Rat.div_def, Rat.mul_assoc]
  have hd' : (0 : Rat) < (d : Rat) := Rat.intCast_pos.2 hd
  have k1 := Int.emod_nonneg (A * n) (show d ≠ 0 by omega)
  have k2 := Int.emod_lt_of_pos (A * n) hd
  have k3 := Int.mul_ediv_add_emod (A * n) d
  rw [e]
  generalize A * n / d = k at *
  generalize hN : A * n = N at *
  refine floor_eq ?_ ?_
  · rw [le_div hd', ← Rat.intCast_mul]
    refine Rat.intCast_le_intCast.2 ?_
    rw [Int.mul_comm]; omega
  · rw [Rat.div_lt_iff hd', ← Rat.intCast_mul]
    refine Rat.intCast_lt_intCast.2 ?_
    rw [Int.add_mul, Int.mul_comm k d]; omega

theorem Flat_ok : V_Flat := by
  intro x0 r0 x1 r1 x2 _ x3 _ x4 r4 _
  have r0 : 0 ≤ x0 ∧ x0 ≤ 4294967295 := r0
  have r1 : 0 ≤ x1 ∧ x1 ≤ 4294967295 := r1
  rw [rngu8] at r4
  have dm : Int.tmod x1 1000000 = x1 % 1000000 := Int.tmod_eq_emod_of_nonneg r1.1
  simp only [Bool.decide_eq_true]
  rw [dm, tmod12 r4.1]
  obtain ⟨d, hd⟩ : ∃ d, d = 1 + x1 % 1000000 := ⟨_, rfl⟩
  have db : 1 ≤ d ∧ d ≤ 1000000 := by omega
  rw [← hd]
  obtain ⟨n, hn⟩ : ∃ n, n = Int.tmod x0 (d + 1) := ⟨_, rfl⟩
  rw [← hn]
  have nb : 0 ≤ n ∧ n ≤ d := by
    rw [hn, Int.tmod_eq_emod_of_nonneg r0.1]
    have := Int.emod_nonneg x0 (show d + 1 ≠ 0 by omega)
    have := Int.emod_lt_of_pos x0 (show 0 < d + 1 by omega)
    omega
  refine ⟨trivial, fun b0 hb => ⟨fun k => absurd hb k, fun _ => ?_⟩⟩
  refine ⟨by decide, (show 0 ≤ x1 % 1000000 ∧ x1 % 1000000 ≤ (4294967295 : Int) by omega), by rw [rng64]; omega, by rw [rng64]; omega, by omega, by rw [rng64]; omega, trivial,
    fun na ns nrs nc nd nrd hn1 => ⟨trivial, fun da ds drs dc dd drd hd1 => ⟨trivial, fun a b rb c e re e1 _ hq => ?_⟩⟩⟩
  have hd0 : (0 : Rat) < (d : Rat) := Rat.intCast_pos.2 (by omega)
  have hq := (hq.1 ⟨fromInt_ok hn1, fromInt_ok hd1⟩).1 (by rw [hd1.1.fq]; intro h0; rw [h0] at hd0; exact absurd hd0 (by decide))
  rw [hn1.1.fq, hd1.1.fq] at hq
  have hn0 : (0 : Rat) ≤ (n : Rat) := Rat.intCast_le_intCast.2 nb.1
  have bq : Bd ((n : Rat) / (d : Rat)) 1 1000000 := by
    refine ⟨?_, ?_, ?_⟩
    · rw [le_div hd0, Rat.zero_mul]; exact hn0
    · rw [div_le hd0, ← Rat.intCast_mul]; exact Rat.intCast_le_intCast.2 (by omega)
    · rw [← Rat.divInt_eq_div]
      have := divInt_den_le (n := n) (d := d) (by omega)
      omega
  have fitq : fitQ ((n : Rat) / (d : Rat)) := bq.fit (by decide) (by decide)
  obtain ⟨qq, rfl⟩ := hq.1 fitq
  have oq := qq.ok (ranged16 rb) (ranged16 re) fitq
  have okq : okR a b c e := ⟨oq, by rw [qq.fq]; exact bq.1, by rw [qq.fq]; exact bq.2.1, by rw [qq.fq]; have := bq.2.2; omega⟩
  refine ⟨fun k => absurd rfl k, fun _ => ⟨trivial, fun A _ hA => ⟨trivial, fun L _ hL => ?_⟩⟩⟩
  have hA := pick_bd hA (by decide)
  have hL := pick_bd hL (by decide)
  have aA : amt A := ⟨by omega, by omega⟩
  obtain ⟨m, hm⟩ : ∃ m, m = 1 + x4 % 12 := ⟨_, rfl⟩
  rw [← hm]
  have mb : 1 ≤ m ∧ m ≤ 12 := by omega
  have vf : validS (rowB 0 a b c e) := rowB_valid ⟨by decide, by decide⟩ okq
  have vl' : validS (rowB L a b c e) := rowB_valid ⟨by omega, by omega⟩ okq
  have flat : ∀ M : Int, TT (rowB 0 a b c e) M A = (A : Rat) * ((n : Rat) / (d : Rat)) := fun M => by
    rw [rowB_TT, rowB_PI, qq.fq]
    have : (if 12 * A - 0 * M ≤ 0 then 0 else 12 * A - 0 * M) = 12 * A := by split <;> omega
    rw [this, Rat.intCast_mul, show ((12 : Int) : Rat) = 12 from rfl]
    grind
  refine ⟨by decide, by rw [rngu8]; omega, by rw [rng64]; omega, trivial, fun xa xb xrb xc xd xrd e2 _ hx => ⟨trivial, fun ga gb grb gc gd grd hg => ⟨trivial, fun wa wb wrb wc wd wrd e3 _ hw => ⟨trivial, fun due _ e4 _ hdue => ?_⟩⟩⟩⟩
  obtain ⟨qx, ox, rfl⟩ := hx.1 ⟨vf, aA⟩
  have qx : IsQ (TT (rowB 0 a b c e) 12 A) xa xb xc xd := qx
  rw [flat] at qx
  have fitw : fitQ ((A : Rat) * ((n : Rat) / (d : Rat))) := ((Bd.int (n := A) (K := 1099511627776) (by omega) (by omega)).mul bq).fit (by decide) (by decide)
  have hw := hw.1 ⟨fromInt_ok hg, oq⟩
  rw [hg.1.fq, qq.fq] at hw
  obtain ⟨qw, rfl⟩ := hw.1 fitw
  obtain ⟨g1, rfl⟩ := hdue.1 ⟨vf, mb, aA⟩
  rw [show TT (Sl.lit [[.int 0, .bool a, Sl.d b, .bool c, Sl.d e]]) m A = (A : Rat) * ((n : Rat) / (d : Rat)) from flat m, floor_frac (by omega)] at g1
  have Lm : 0 ≤ L * m ∧ L * m ≤ 1099511627776 * 12 := ⟨Int.mul_nonneg hL.1 (by omega), Int.mul_le_mul (by omega) mb.2 (by omega) (by decide)⟩
  have td : Int.tdiv (L * m) 12 = L * m / 12 := Int.tdiv_eq_ediv_of_nonneg Lm.1
  rw [td]
  obtain ⟨F, hF⟩ : ∃ F, F = imin A (L * m / 12) := ⟨_, rfl⟩
  rw [← hF]
  have Fb : 0 ≤ F ∧ F ≤ A ∧ 12 * F ≤ L * m := by unfold imin at hF; split at hF <;> omega
  refine ⟨by rw [rng64]; omega, by decide, by rw [rng64]; omega, trivial, fun free _ e5 _ hfree => ⟨trivial, fun none_ _ e6 _ hnone => ?_⟩⟩
  obtain ⟨g2, rfl⟩ := hfree.1 ⟨vl', mb, ⟨by omega, by omega⟩⟩
  have f0 : free = 0 := by
    rw [show TT (Sl.lit [[.int L, .bool a, Sl.d b, .bool c, Sl.d e]]) m F = 0 from by
      show TT (rowB L a b c e) m F = 0
      rw [rowB_TT, rowB_PI, if_pos (by omega), show ((0 : Int) : Rat) = 0 from rfl]; grind] at g2
    rw [g2]; exact Rat.floor_intCast 0
  obtain ⟨g3, rfl⟩ := hnone.1 ⟨nil_valid, mb, aA⟩
  have n0 : none_ = 0 := by
    rw [nil_TT] at g3
    rw [g3]; exact Rat.floor_intCast 0
  have An : 0 ≤ A * n ∧ A * n ≤ 1099511627776 * 1000000 := ⟨Int.mul_nonneg hA.1 nb.1, Int.mul_le_mul (by omega) (by omega) nb.1 (by decide)⟩
  have tn : Int.tdiv (A * n) d = A * n / d := Int.tdiv_eq_ediv_of_nonneg An.1
  have dq : 0 ≤ A * n / d ∧ A * n / d ≤ A * n := ⟨Int.ediv_nonneg An.1 (by omega), Int.ediv_le_self _ An.1⟩
  rw [tn]
  refine ⟨by rw [rng64]; decide, by rw [rng64]; decide, by rw [rng64]; decide, by rw [rng64]; decide, fun _ => ⟨trivial, fun v hv => ⟨fun _ => ⟨trivial, fun s hs => ⟨fun _ => ⟨by rw [rng64]; omega, by omega, by rw [rng64]; omega, fun _ => ⟨fun _ => ⟨?_, trivial⟩, fun k => absurd f0 k⟩, fun k => absurd g1 k⟩, fun k => ?_⟩⟩, fun k => ?_⟩⟩, fun k => absurd rfl k⟩
  · show decide (none_ = 0) = true
    rw [decide_eq_true_eq]; exact n0
  · exact absurd (hs.2 (qx.same qw (ranged16 xrb) (ranged16 xrd) (ranged16 wrb) (ranged16 wrd))) k
  · exact absurd (hv.2 vf) k

end Go.Sx.N
