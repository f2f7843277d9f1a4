/-
  Interest; months that are late; what is owed. Conditions: none.
-/
import Derived.Test.YtmhhcnaflklapaaGreatArrFf
import Derived.Test.YtmhhcnaflklapaaGreatLedF
import Derived.Test.YtmhhcnaflklapaaGreatArrTc
set_option linter.unusedVariables false
set_option linter.unusedSimpArgs false
namespace Go.Sx.N

theorem Interest_ok : V_Interest := by
  intro n _ due _ paid _ name two s rs known _ hp
  simp only [Bool.decide_eq_true]
  have bad : ¬ okI n due paid name two s → q_Interest n due paid name two s known 0 2 ∧ True := fun h => ⟨⟨fun _ => ⟨rfl, rfl⟩, fun k => absurd k h⟩, trivial⟩
  refine ⟨fun h => bad fun k => ?_, fun h1 => ⟨fun h => bad fun k => ?_, fun h2 => ⟨fun h => bad fun k => ?_, fun h3 => ⟨fun h => bad fun k => ?_, fun h4 => ⟨fun h => bad fun k => ?_, fun h5 => ⟨hp, fun v hv => ⟨fun h => bad fun k => h (hv.2 k.2.2.1), fun h6 => ⟨fun h => bad fun k => ?_, fun h7 => ⟨trivial, fun zn zl rzl zd zk rzk hz => ?_⟩⟩⟩⟩⟩⟩⟩⟩⟩
  · have := k.1.1; omega
  · have := k.1.2; omega
  · have := k.2.1.1; omega
  · have := k.2.1.2.1; omega
  · have := k.2.1.2.2; omega
  · have := k.2.2.2; rw [h] at this; cases this
  have hI : okI n due paid name two s := ⟨⟨by omega, by omega⟩, ⟨by omega, by omega, by omega⟩, hv.1 (Classical.not_not.1 h6), by simpa using h7⟩
  have zero : n = 0 ∨ due = paid → q_Interest n due paid name two s known 0 0 ∧ True := fun h => ⟨⟨fun k => absurd hI k, fun _ => ⟨fun _ => ⟨rfl, rfl⟩, fun k1 k2 => by omega⟩⟩, trivial⟩
  refine ⟨fun h => zero (.inl h), fun h8 => ⟨fun h => zero (.inr h), fun h9 => ?_⟩⟩
  exact quick_ok hI.2.2 hp hI.2.1 ⟨⟨rfl, rfl, rfl, rfl, rfl⟩, years_nil, sums_first hz⟩ fun v e _ _ _ _ _ _ _ _ _ _ _ h => ⟨⟨fun k => absurd hI k, fun _ => ⟨fun k => by omega, fun _ _ => h⟩⟩, trivial⟩

/-! Lists of rows -/
theorem lit_app (l l' : List (List D)) : Sl.app (Sl.lit l) (Sl.lit l') = Sl.lit (l ++ l') := by
  unfold Sl.app Sl.lit
  congr 1
  · simp
  · funext i j
    by_cases h : i < l.length
    · simp [h, List.getElem?_append_left h]
    · have h : l.length ≤ i := by omega
      simp [Nat.not_lt.2 h, List.getElem?_append_right h]
theorem nil_lit : Sl.nil = Sl.lit [] := by
  unfold Sl.nil Sl.lit
  congr 1
theorem app_nil_left (d : Sl) : Sl.app (Sl.lit []) d = d := by
  cases d
  unfold Sl.app Sl.lit
  congr 1
  simp
theorem len_lit (l : List (List D)) : (Sl.lit l).len = (l.length : Int) := rfl
theorem eqPosts_refl (s : Sl) : eqPosts s s := ⟨rfl, fun _ _ _ => ⟨rfl, rfl, rfl, rfl⟩⟩

section
variable {st : Int} {d p : Sl}
/-! What is open for the months -/
def PB (st : Int) (d p : Sl) (j : Int) (s : Sl) : Prop := (0 ≤ j ∧ j ≤ p.len) ∧ s.len = d.len ∧ ∀ k : Int, 0 ≤ k → k < d.len → s.int k 0 = d.int k 0 - sumTo (fun i => if p.int i 1 = st + k then prin p i else 0) j.toNat
def PC (st : Int) (d p s : Sl) : Prop := s.len = d.len ∧ ∀ k : Int, 0 ≤ k → k < d.len → s.int k 0 = openS st d p (st + k)
theorem PB.init : PB st d p 0 (Sl.app (Sl.lit []) d) := by
  rw [app_nil_left]
  exact ⟨⟨Int.le_refl _, len0 p⟩, rfl, fun k k0 k1 => by show _ = d.int k 0 - 0; omega⟩
theorem PB.bd {j : Int} {s : Sl} (hv : validS st d p) (h : PB st d p j s) {k : Int} (k0 : 0 ≤ k) (k1 : k < d.len) : -4400000000000000 ≤ s.int k 0 ∧ s.int k 0 ≤ 4400000000000000 := by
  obtain ⟨⟨j0, j1⟩, hl, hk⟩ := h
  have := L.sumTo_bound (f := fun i => if p.int i 1 = st + k then prin p i else 0) (n := j.toNat) (fun i h0 h1 => by
    have := L.prin_bound (hv.2.2.2 i h0 (by omega))
    show -1099511627776 ≤ (if p.int i 1 = st + k then prin p i else 0) ∧ (if p.int i 1 = st + k then prin p i else 0) ≤ 1099511627776
    split <;> omega)
  have b := hv.2.1 k k0 k1
  have := hv.2.2.1
  rw [hk k k0 k1]
  omega
theorem PB.step {j : Int} {s : Sl} (hv : validS st d p) (h : PB st d p j s) (hj : j < p.len) :
    0 ≤ j ∧ j < p.len ∧ (Rng .i64 (p.int j 0) → Rng .i64 (p.int j 1) → Rng .u8 (p.int j 2) → Rng .i64 (p.int j 3) →
      ((p.int j 2 ≠ 3 → Rng .i64 (p.int j 1 - st) ∧ 0 ≤ p.int j 1 - st ∧ p.int j 1 - st < s.len ∧ (Rng .i64 (s.int (p.int j 1 - st) 0) → Rng .i64 (s.int (p.int j 1 - st) 0 - p.int j 3) ∧ 0 ≤ p.int j 1 - st ∧ p.int j 1 - st < s.len ∧ Rng .i64 (j + 1) ∧
          (PB st d p (j + 1) (Sl.upd s (p.int j 1 - st) 0 [.int (s.int (p.int j 1 - st) 0 - p.int j 3)]) ∧ (p.len - (j + 1)).toNat < (p.len - j).toNat))) ∧
       (¬ p.int j 2 ≠ 3 → Rng .i64 (j + 1) ∧ (PB st d p (j + 1) s ∧ (p.len - (j + 1)).toNat < (p.len - j).toNat)))) := by
  have h' := h
  obtain ⟨⟨j0, j1⟩, hl, hk⟩ := h
  have f := hv.2.2.2 j j0 hj
  have am := L.amt_bound f
  obtain ⟨⟨_, _, f1, f2⟩, _⟩ := f.1
  have := hv.2.2.1
  have hb := hv.1
  refine ⟨j0, hj, fun _ _ _ _ => ⟨fun h3 => ⟨by rw [rng64]; omega, by omega, by omega, fun _ => ?_⟩, fun h3 => ⟨by rw [rng64]; omega, ⟨⟨by omega, by omega⟩, hl, fun k k0 k1 => ?_⟩, by omega⟩⟩⟩
  · have b := h'.bd hv (k := p.int j 1 - st) (by omega) (by omega)
    refine ⟨by rw [rng64]; omega, by omega, by omega, by rw [rng64]; omega, ⟨⟨by omega, by omega⟩, hl, fun k k0 k1 => ?_⟩, by omega⟩
    rw [int_upd (by omega) k0, L.sumTo_succ _ j0]
    by_cases e : k = p.int j 1 - st
    · rw [if_pos e, ← e, hk k k0 k1, if_pos (by omega)]
      unfold prin
      rw [if_neg h3]; omega
    · rw [if_neg e, hk k k0 k1, if_neg (by omega)]; omega
  · rw [hk k k0 k1, L.sumTo_succ _ j0]
    unfold prin
    have h3 := Classical.not_not.1 h3
    rw [if_pos h3]
    split <;> omega
theorem PB.fin {j : Int} {s : Sl} (h : PB st d p j s) (hj : ¬ j < p.len) : PC st d p s := by
  obtain ⟨⟨j0, j1⟩, hl, hk⟩ := h
  refine ⟨hl, fun k k0 k1 => ?_⟩
  rw [hk k k0 k1]
  have : j.toNat = p.n := by unfold Sl.len at *; omega
  rw [this]
  unfold openS
  rw [show st + k - st = k by omega]
  rfl

/-! Months that are late -/
theorem late_not {m : Int} {k : Nat} (h : m ≤ st + k) {i : Nat} (hi : k ≤ i) : ¬ lateP st d p m i := fun g => by have := g.1; omega
end

end Go.Sx.N
