/-
  The law ArrearsWrong: its condition. Conditions: none.
-/
import Derived.Test.YtmhhcnaflklapaaGreatNumVWrong
import Derived.Test.YtmhhcnaflklapaaGreatArrFk
set_option linter.unusedVariables false
set_option linter.unusedSimpArgs false
namespace Go.Sx.N

theorem Wrong_ok : V_Wrong := by
  intro st _ d rd p rp x rx _
  simp only [Bool.decide_eq_true]
  have aw : ∀ b : Bool, q_aAwake b → q_Wrong st d p x b ∧ True := fun b hb => ⟨hb, trivial⟩
  refine ⟨trivial, fun f hf => ⟨fun _ => ⟨trivial, aw⟩, fun hf1 => ⟨trivial, fun v hv => ⟨fun _ => ⟨trivial, aw⟩, fun hv1 => ⟨trivial, fun name two s rs hr => ?_⟩⟩⟩⟩⟩
  have hv := hv.1 (Classical.not_not.1 hv1)
  have hb := hv.1
  have nm := rates_name hr
  have mi : ∀ k : Int, imin x k ≤ k := fun k => by unfold imin; split <;> omega
  have ma : ∀ k : Int, k ≤ imax x k := fun k => by unfold imax; split <;> omega
  have m1 := mi (-1)
  have m2 := ma 1099511627777
  have m3 := mi 6
  have m4 := ma 2401
  have m5 := ma 65536
  intro sm
  generalize hA : imin x (-1) = A at *
  generalize hB : imax x 1099511627777 = B at *
  generalize hC : imin x 6 = C at *
  generalize hD : imax x 2401 = D' at *
  generalize hE : imax x 65536 = E at *
  have tw : ∀ {c : Prop}, okO st d p 0 0 (bytes [114]) true Sl.nil → c := fun k => by have := k.1.2.2; cases this
  have L5 : (Sl.lit [[D.int A, D.int 5, D.int 6], [D.int B, D.int 5, D.int 6], [D.int 1, D.int A, D.int 6], [D.int 1, D.int 7, D.int C], [D.int 1, D.int 7, D.int D']]).len = 5 := rfl
  rw [L5]
  refine ⟨fun i => 0 ≤ i ∧ i ≤ 5, fun i => (5 - i).toNat, ⟨by omega, by omega⟩, fun i _ ⟨i0, i5⟩ => ⟨fun hi => ⟨i0, hi, fun _ _ _ => ⟨nm, fun v rv e re hq => ?_⟩⟩, fun hi => ⟨by show okN _; unfold okN; decide, fun v1 _ e1 _ h1 => ⟨nm, fun r2 _ e2 _ h2 => ⟨nm, fun r3 _ e3 _ h3 => ⟨nm, fun r4 _ e4 _ h4 => ⟨nm, fun r5 _ e5 _ h5 => ⟨by show okN _; unfold okN; decide, fun r6 _ e6 _ h6 => ⟨nm, fun r7 _ e7 _ h7 => ?_⟩⟩⟩⟩⟩⟩⟩⟩⟩
  · have bad : v = 0 ∧ e = 2 := by
      refine hq.1 fun k => ?_
      obtain ⟨⟨a0, a1⟩, ⟨b0, b1, b2⟩, _⟩ := k
      have : i = 0 ∨ i = 1 ∨ i = 2 ∨ i = 3 ∨ i = 4 := by omega
      rcases this with rfl | rfl | rfl | rfl | rfl
      · have a0 : 0 ≤ A := a0
        omega
      · have a1 : B ≤ 1099511627776 := a1
        omega
      · have b0 : 0 ≤ A := b0
        omega
      · have b1 : 7 ≤ C := b1
        omega
      · have b2 : D' ≤ 2400 := b2
        omega
    refine ⟨fun k => absurd bad.1 k, fun _ => ⟨fun k => absurd bad.2 k, fun _ => ⟨by rw [rng64]; omega, ⟨by omega, by omega⟩, by show (5 - (i + 1)).toNat < (5 - i).toNat; omega⟩⟩⟩
  · have g1 : e1 = 2 := (h1.1 (fun k => by have := k.2.2.2; cases this)).2
    have g2 : e2 = 2 := (h2.1 (fun k => by have := k.2.1.1; omega)).2
    have g3 : e3 = 2 := (h3.1 (fun k => by have := k.2.1.2; omega)).2
    have g4 : e4 = 2 := (h4.1 (fun k => by have := k.2.2.1; omega)).2
    have g5 : e5 = 2 := (h5.1 (fun k => by have := k.2.2.2; omega)).2
    have g6 : e6 = 2 := (h6.1 (fun k => by have := k.1.2.2; cases this)).2
    have g7 := h7.2 ⟨⟨hv, rates_valid hr⟩, ⟨by omega, by omega⟩, by omega, by omega⟩
    rw [owe_stop (k := 0) (by omega) (Nat.zero_le _)] at g7
    have g7 : eqPosts r7 (Sl.lit []) ∧ e7 = 0 := g7
    have g8 : r7.len = 0 := g7.1.1
    refine ⟨fun _ => ⟨fun _ => ⟨fun _ => ⟨fun _ => ⟨fun _ => ⟨fun _ _ => ⟨fun _ => ⟨fun _ => ⟨trivial, aw⟩, fun k => absurd g7.2 k⟩, fun k => absurd g8 k⟩, fun k => by omega⟩, fun k => by omega⟩, fun k => by omega⟩, fun k => by omega⟩, fun k => by omega⟩, fun k => absurd g1 k⟩

end Go.Sx.N
