/-
  The condition of TaxGrows. Conditions: none.
-/
import Derived.Test.YtedajccdbdlaoaaGreatNumVGrows
import Derived.Test.YtedajccdbdlaoaaGreatTaxFc
set_option linter.unusedVariables false
set_option linter.unusedSimpArgs false
namespace Go.Sx.N

theorem TN_sup {l : Sl} (v : validS l) {a b : Int} (ha : 0 ≤ a) (hb : 0 ≤ b) : ∀ n : Nat, (n : Int) ≤ l.len → TN l 12 a n + TN l 12 b n ≤ TN l 12 (a + b) n
  | 0, _ => by simp only [TN]; grind
  | n + 1, h => by
    have ih := TN_sup v ha hb n (by omega)
    have f := (v.at (i := n) (by omega) (by omega)).1
    have d := v.rd (i := n) (by omega) (by omega)
    have p : PI l 12 a n + PI l 12 b n ≤ PI l 12 (a + b) n := by unfold PI; (repeat' split) <;> omega
    have p' : ((PI l 12 a n : Int) : Rat) + (PI l 12 b n : Rat) ≤ (PI l 12 (a + b) n : Rat) := by rw [← Rat.intCast_add]; exact Rat.intCast_le_intCast.2 p
    have q := Rat.mul_le_mul_of_nonneg_right p' d.1
    simp only [TN]
    grind
theorem TT_sup {l : Sl} (v : validS l) {a b : Int} (ha : 0 ≤ a) (hb : 0 ≤ b) : TT l 12 a + TT l 12 b ≤ TT l 12 (a + b) := by
  have l0 := len0 l
  have k := TN_sup v ha hb l.len.toNat (by omega)
  unfold TT
  grind
theorem pick_bd {x n r : Int} (h : q_kPick x n r) (hn : 1 ≤ n) : 0 ≤ r ∧ r < n := by
  have h : r = if n < 1 then 0 else x % n := h
  rw [if_neg (by omega)] at h
  have := Int.emod_nonneg x (show n ≠ 0 by omega)
  have := Int.emod_lt_of_pos x (show 0 < n by omega)
  omega

theorem Grows_ok : V_Grows := by
  intro l _ i1 _ i2 _ m1 rm1 m2 rm2 _
  simp only [Bool.decide_eq_true]
  refine ⟨trivial, fun b hb => ⟨fun k => absurd hb k, fun _ => ⟨trivial, fun c _ => ⟨fun _ => ⟨rfl, trivial⟩, fun _ => ⟨trivial, fun d hd => ⟨fun _ => ⟨rfl, trivial⟩, fun hv => ⟨trivial, fun A _ hA => ⟨trivial, fun B _ hB => ?_⟩⟩⟩⟩⟩⟩⟩⟩
  have v := hd.1 (Classical.not_not.1 hv)
  have hA := pick_bd hA (by decide)
  have hB := pick_bd hB (by decide)
  have vA : validS l ∧ amt A := ⟨v, by omega, by omega⟩
  have vB : validS l ∧ amt B := ⟨v, by omega, by omega⟩
  have vC : validS l ∧ amt (A + B) := ⟨v, by omega, by omega⟩
  have m12 : (1 : Int) ≤ 12 ∧ (12 : Int) ≤ 12 := ⟨by decide, by decide⟩
  rw [rngu8] at rm1 rm2
  refine ⟨trivial, fun xa xb xrb xc xd xrd e1 _ hx => ⟨trivial, fun ya yb yrb yc yd yrd e2 _ hy => ⟨by rw [rng64]; omega, trivial, fun za zb zrb zc zd zrd e3 _ hz => ?_⟩⟩⟩
  obtain ⟨qx, ox, rfl⟩ := hx.1 vA
  obtain ⟨qy, oy, rfl⟩ := hy.1 vB
  obtain ⟨qz, oz, rfl⟩ := hz.1 vC
  refine ⟨by rw [rng64]; decide, by rw [rng64]; decide, fun k => absurd rfl k, fun _ => ⟨trivial, fun ha hb' hrb hc hd' hrd e4 _ hh => ⟨trivial, fun fa fb frb fc fd frd hf => ⟨trivial, fun ia ib irb ic id_ ird e5 _ hi => ?_⟩⟩⟩⟩
  have bx := TT_bd (l := l) (m := 12) v m12 vA.2
  have by' := TT_bd (l := l) (m := 12) v m12 vB.2
  have fit1 : fitQ (TT l 12 A + TT l 12 B) := (bx.add by').fit (by decide) (by decide)
  have fit2 : fitQ (TT l 12 A + (B : Rat)) := (bx.add (Bd.int (n := B) (K := 549755813888) (by omega) (by omega))).fit (by decide) (by decide)
  have hh := hh.1 ⟨ox, oy⟩
  rw [qx.fq, qy.fq] at hh
  obtain ⟨qh, rfl⟩ := hh.1 fit1
  have oh := qh.ok (ranged16 hrb) (ranged16 hrd) fit1
  have hi := hi.1 ⟨ox, fromInt_ok hf⟩
  rw [qx.fq, hf.1.fq] at hi
  obtain ⟨qi, rfl⟩ := hi.1 fit2
  have oi := qi.ok (ranged16 irb) (ranged16 ird) fit2
  rw [tmod12 rm1.1, tmod12 rm2.1]
  obtain ⟨p, hp⟩ : ∃ p, p = imin (1 + m1 % 12) (1 + m2 % 12) := ⟨_, rfl⟩
  obtain ⟨q, hq⟩ : ∃ q, q = imax (1 + m1 % 12) (1 + m2 % 12) := ⟨_, rfl⟩
  have pq : 1 ≤ p ∧ p ≤ q ∧ q ≤ 12 := by
    unfold imin at hp; unfold imax at hq
    split at hp <;> split at hq <;> omega
  rw [← hp, ← hq]
  refine ⟨by decide, by rw [rngu8]; omega, by rw [rng64]; omega, by decide, by rw [rngu8]; omega, by rw [rng64]; omega, trivial, fun d1 _ e6 _ h1 => ⟨trivial, fun d2 _ e7 _ h2 => ?_⟩⟩
  obtain ⟨g1, rfl⟩ := h1.1 ⟨v, ⟨by omega, by omega⟩, vA.2⟩
  obtain ⟨g2, rfl⟩ := h2.1 ⟨v, ⟨by omega, by omega⟩, vA.2⟩
  have b1 := due_bounds (l := l) (m := p) (A := A) v ⟨by omega, by omega⟩ vA.2
  have b2 := due_bounds (l := l) (m := q) (A := A) v ⟨by omega, by omega⟩ vA.2
  have mo := Rat.floor_monotone (TT_month v (m := p) (m' := q) (A := A) pq.2.1)
  refine ⟨by rw [rng64]; decide, by rw [rng64]; decide, by rw [rng64]; decide, fun _ => ⟨trivial, fun c1 _ hc1 => ?_⟩, fun k => absurd rfl k⟩
  have s1 := hc1.1 ⟨oz, oh⟩
  rw [qz.fq, qh.fq] at s1
  refine ⟨fun _ => ⟨trivial, fun c2 _ hc2 => ?_⟩, fun k => absurd (s1.ge.2 (TT_sup v (by omega) (by omega))) k⟩
  have s2 := hc2.1 ⟨oz, oi⟩
  rw [qz.fq, qi.fq] at s2
  refine ⟨fun _ => ⟨trivial, fun c3 _ hc3 => ?_⟩, fun k => absurd (s2.le.2 (TT_lip v (by omega))) k⟩
  have s3 := hc3.1 ⟨oz, ox⟩
  rw [qz.fq, qx.fq] at s3
  refine ⟨fun _ => ⟨fun _ => ⟨fun _ => ⟨?_, trivial⟩, fun k => absurd (by omega) k⟩, fun k => absurd (by omega) k⟩, fun k => absurd (s3.ge.2 (TT_more v (by omega))) k⟩
  show decide (d1 ≤ A) = true
  rw [decide_eq_true_eq]; omega

end Go.Sx.N
