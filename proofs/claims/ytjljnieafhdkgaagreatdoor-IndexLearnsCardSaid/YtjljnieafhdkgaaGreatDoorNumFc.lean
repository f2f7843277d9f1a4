/-
  The conditions of the reference's functions on whole numbers. Conditions: none.
  The conditions of the reference's functions on whole numbers, second part. Conditions: none.
  The conditions of the reference's functions on fractions, and of the kit's copies and comparisons. Conditions: none.
-/
import Derived.Test.YtjljnieafhdkgaaGreatDoorNumFb
import Derived.Test.YtjljnieafhdkgaaGreatDoorNumVD
import Derived.Test.YtjljnieafhdkgaaGreatDoorNumVE
import Derived.Test.YtjljnieafhdkgaaGreatDoorNumVK
set_option linter.unusedVariables false
set_option linter.unusedSimpArgs false
namespace Go.Sx.N

end Go.Sx.N

namespace Go.Sx.N

end Go.Sx.N

namespace Go.Sx.N

theorem divInt_den_le {n d : Int} (h : d ≠ 0) : (Rat.divInt n d).den ≤ d.natAbs := by
  rw [Rat.den_divInt, if_neg h]
  exact Nat.div_le_self ..
theorem smF.nw {a c : Bool} {b d : Sl} (h : smF a b c d) : NW a b ∧ NW c d := ⟨h.1.isQ.1, h.1.isQ.nwd⟩
theorem smF.fq_def {a c : Bool} {b d : Sl} (h : smF a b c d) : fq a b d = Rat.divInt (zv a b) (zv c d) := by
  unfold fq
  have : zv c d = vl d := by unfold zv; rw [h.1.isQ.2.2.1]; simp
  rw [this]
theorem okF.sm {a c : Bool} {b d : Sl} (h : okF a b c d) : smF a b c d := ⟨h.1, by have := h.2; omega, by have := h.2; omega⟩

theorem IsQ.neg {q : Rat} {nn dn n' : Bool} {nl dl l' : Sl} (h : IsQ q nn nl dn dl) (hn : NW n' l') (hz : zv n' l' = - zv nn nl) : IsQ (-q) n' l' dn dl := by
  refine ⟨hn, ?_, h.2.2.1, h.2.2.2.1, ?_⟩
  · rw [hz, h.2.1]; rfl
  · rw [h.2.2.2.2]; rfl

/-! The kit. -/

theorem kSameLimbs_ok : V_kSameLimbs := by
  intro a ra b rb _ hsa _
  have hm := small64 hsa
  have ha0 := len0 a
  refine ⟨fun hne => ⟨by simp only [q_kSameLimbs, decide_false, Bool.false_eq_true, false_iff]; exact fun h => hne h.1, trivial⟩, fun heq => ?_⟩
  have heq : a.len = b.len := Classical.not_not.1 heq
  refine ⟨fun i => 0 ≤ i ∧ i ≤ a.len ∧ ∀ k : Int, 0 ≤ k → k < i → a.int k 0 = b.int k 0, fun i => (a.len - i).toNat, ⟨by omega, ha0, fun k h1 h2 => absurd h1 (by omega)⟩, fun i _ hj _ => ?_⟩
  obtain ⟨i0, i1, hk⟩ := hj
  refine ⟨fun hlt => ⟨i0, hlt, fun _ => ⟨i0, by omega, fun _ => ⟨fun hne => ⟨?_, trivial⟩, fun he => ⟨rsL _ (by omega), ⟨by omega, by omega, fun k k0 k1 => ?_⟩, ?_⟩⟩⟩⟩, fun hge => ⟨?_, trivial⟩⟩
  · simp only [q_kSameLimbs, decide_false, Bool.false_eq_true, false_iff]
    exact fun h => hne (h.2 i i0 hlt)
  · by_cases e : k = i
    · rw [e]; exact Classical.not_not.1 he
    · exact hk k k0 (by omega)
  · show (a.len - (i + 1)).toNat < (a.len - i).toNat
    omega
  · simp only [q_kSameLimbs, decide_true, true_iff]
    exact ⟨heq, fun k k0 k1 => hk k k0 (by omega)⟩

theorem kSameWhole_ok : V_kSameWhole := by
  intro n a ra m b rb _
  simp only [q_kSameWhole, q_kSameLimbs, Bool.decide_eq_true, decide_false, Bool.false_eq_true, false_iff]
  refine ⟨fun h => ⟨trivial, fun e he => ⟨⟨fun h' => ⟨by simpa using h, he.1 h'⟩, fun h' => he.2 h'.2⟩, trivial⟩⟩, fun h => ⟨fun h' => h (by rw [h'.1]), trivial⟩⟩

theorem kSameFrac_ok : V_kSameFrac := by
  intro a b rb c d rd a' b' rb' c' d' rd' _
  simp only [Bool.decide_eq_true, q_kSameWhole, q_kSameFrac, decide_false, Bool.false_eq_true, false_iff]
  refine ⟨trivial, fun v hv => ⟨fun h => ⟨trivial, fun w hw => ⟨⟨fun hh => ⟨hv.1 h, hw.1 hh⟩, fun hh => hw.2 hh.2⟩, trivial⟩⟩, fun h => ⟨fun hh => h (hv.2 hh.1), trivial⟩⟩⟩

theorem kPick_ok : V_kPick := by
  intro x rx n rn _
  rw [rng64] at rx rn
  unfold q_kPick
  refine ⟨fun h => ⟨by rw [if_pos h], trivial⟩, fun h => ⟨by omega, ?_, fun h' => ⟨rsL _ ?_, ?_, trivial⟩, fun h' => ⟨?_, trivial⟩⟩⟩
  all_goals
    have e1 := Int.mul_tdiv_add_tmod x n
    have e2 := Int.mul_ediv_add_emod x n
    have m0 := Int.emod_nonneg x (show n ≠ 0 by omega)
    have m1 := Int.emod_lt_of_pos x (show 0 < n by omega)
    have t : Int.tmod x n = x % n ∨ Int.tmod x n = x % n - n := by
      rw [Int.tmod_eq_emod]
      split
      · left; omega
      · right
        have : ((n.natAbs : Nat) : Int) = n := by omega
        rw [this]
  · exact rsL _ (by omega)
  · omega
  · rw [if_neg h]
    rcases t with t | t <;> omega
  · rw [if_neg h]
    rcases t with t | t <;> omega

end Go.Sx.N
