/-
  The law TableOrder: its condition. Conditions: none.
-/
import Derived.Test.YtjbknheeiaaioaaNumVTOrder
import Derived.Test.YtjbknheeiaaioaaTabI
set_option linter.unusedVariables false
set_option linter.unusedSimpArgs false
namespace Go.Sx.N

theorem builtAt_right {two : Bool} {s : Sl} {i : Int} (h : builtAt two s i) : rightAt two s i := by
  obtain ⟨h1, h2, h3, h4, h5⟩ := h
  exact ⟨by omega, by omega, h3, h4, h5⟩

theorem nil_valid {two : Bool} : validT builtN two Sl.nil :=
  ⟨by decide, by decide, fun i h0 h1 => by rw [len_nil] at h1; omega, fun i h0 h1 => by rw [len_nil] at h1; omega⟩

theorem builtN_ok : okN builtN := by
  show (5 : Int) ≤ 9223372036854775807
  decide

theorem TOrder_ok : V_TOrder := by
  intro s rs two _
  simp only [Bool.decide_eq_true]
  refine ⟨trivial, fun w hw => ⟨fun h => absurd hw h, fun _ => ⟨trivial, fun y b t rt hB => ?_⟩⟩⟩
  have v := built_valid hB
  obtain ⟨rfl, rfl, hl, hs, hb, hBt⟩ := hB
  have s0 := len0 s
  have im : imin s.len 50 ≤ 50 := by unfold imin; split <;> omega
  refine ⟨fun i y1 b1 u1 y2 b2 u2 => (0 ≤ i ∧ i ≤ s.len ∧ i ≤ 50) ∧ (y1 = builtN ∧ b1 = b ∧ validT builtN b u1 ∧ Bt s b i.toNat u1 ∧ u1.len = i) ∧ (y2 = builtN ∧ b2 = b ∧ validT builtN b u2 ∧ u2.len = i ∧ ∀ k : Int, 0 ≤ k → k < i → rowEq u2 k t k), fun i _ _ _ _ _ _ => (50 - i).toNat,
    ⟨⟨Int.le_refl _, s0, by decide⟩, ⟨rfl, rfl, nil_valid, .nil rfl, rfl⟩, ⟨rfl, rfl, nil_valid, rfl, fun k k0 k1 => by omega⟩⟩, fun i ri y1 b1 u1 r1 y2 b2 u2 r2 hJ sm => ?_⟩
  obtain ⟨⟨i0, i1, i2⟩, ⟨rfl, rfl, va, hA, la⟩, ⟨rfl, rfl, vb, lb, hR⟩⟩ := hJ
  have fin : ¬ (i < s.len ∧ i < 50) → V_TOrder_0 s b2 builtN b2 t builtN b2 u1 builtN b2 u2 := fun hn => by
    have e : imin s.len 50 = i := by unfold imin; split <;> omega
    unfold V_TOrder_0
    simp only [Bool.decide_eq_true]
    rw [e] at hBt hl
    refine ⟨trivial, fun c hc => ⟨fun _ => ⟨trivial, fun c2 hc2 => ⟨fun _ => ⟨builtN_ok, fun c3 hc3 => ⟨hc3.2 v, trivial⟩⟩, fun h => absurd (hc2.2 ⟨rfl, rfl, by omega, fun k k0 k1 => hR k k0 (by omega)⟩) h⟩⟩, fun h => absurd (hc.2 ⟨rfl, rfl, Bt_det hA hBt⟩) h⟩⟩
  refine ⟨fun hi => ⟨fun h50 => ?_, fun h50 => fin fun h => h50 h.2⟩, fun hi => fin fun h => hi h.1⟩
  have it : i < t.len := by rw [hl]; unfold imin; split <;> omega
  refine ⟨i0, hi, fun _ _ _ r3 => ⟨trivial, fun A rA B rB K rK nn nl rn dn dl rd hO => ⟨builtN_ok, fun y3 b3 u3 ru3 e1 re1 hL1 => ⟨i0, it, fun _ _ _ _ _ => ⟨builtN_ok, fun y4 b4 u4 ru4 e2 re2 hL2 => ?_⟩⟩⟩⟩⟩
  have r3 : 0 ≤ s.int i 3 ∧ s.int i 3 ≤ 65535 := r3
  have io : isOf s i b2 (rowL A B K nn nl dn dl) := ⟨hO, rn, rd⟩
  have hr : rightAt b2 (rowL A B K nn nl dn dl) 0 := builtAt_right (isOf_at io r3.1 r3.2)
  obtain ⟨rfl, rfl, I1, rfl⟩ := (hL1.2 ⟨va, hr⟩).2 (by omega)
  have hr2 : rightAt b3 t i := v.2.2.2 i i0 it
  obtain ⟨rfl, rfl, I2, rfl⟩ := (hL2.2 ⟨vb, hr2⟩).2 (by omega)
  have eR : rowEq (rowL (t.int i 0) (t.int i 1) (t.int i 2) (t.bool i 3) (t.sub i 4) (t.bool i 5) (t.sub i 6)) 0 t i := ⟨rfl, rfl, rfl, SameF.refl _ _ _ _⟩
  obtain ⟨l4, q1, q2⟩ := ins_last I2 fun k k0 k1 h => by
    rw [ltR_congr eR (hR k k0 (by omega))] at h
    exact sorted_lt hs k0 (show k ≤ i by omega) it h
  have e : (i + 1).toNat = i.toNat + 1 := by omega
  refine ⟨by rw [rng64]; decide, fun h => absurd rfl h, fun _ => ⟨by rw [rng64]; omega, ⟨⟨by omega, by omega, by omega⟩, ⟨rfl, rfl, ins_valid va hr (by omega) I1, ?_, by have := ins_len I1; omega⟩, ⟨rfl, rfl, ins_valid vb (rightAt_congr eR hr2) (by omega) I2, by omega, fun k k0 k1 => ?_⟩⟩, by show (50 - (i + 1)).toNat < (50 - i).toNat; omega⟩⟩
  · rw [e]
    refine .step hA ?_ I1
    rw [show ((i.toNat : Nat) : Int) = i by omega]
    exact io
  · by_cases c : k = i
    · subst c
      rw [lb] at q2
      exact q2.trans eR
    · exact (q1 k k0 (by omega)).trans (hR k k0 (by omega))

end Go.Sx.N
