/-
  Conditions: what is overpaid, what is taken, months after each other. Conditions: none.
-/
import Derived.Test.YtljmbenpkbjmmaaGreatRecFa
set_option linter.unusedVariables false
set_option linter.unusedSimpArgs false
namespace Go.Sx.N

/-! Lists of rows -/
theorem lit_app (l l' : List (List D)) : Sl.app (Sl.lit l) (Sl.lit l') = Sl.lit (l ++ l') := by
  unfold Sl.app Sl.lit
  congr 1
  · simp
  · funext i j
    by_cases h : i < l.length
    · simp [h, List.getElem?_append_left h]
    · have h : l.length ≤ i := by omega
      simp [Nat.not_lt.2 h, List.getElem?_append_right h]
theorem nil_lit : Sl.nil = Sl.lit [] := by
  unfold Sl.nil Sl.lit
  congr 1
theorem len_lit (l : List (List D)) : (Sl.lit l).len = (l.length : Int) := rfl

section
variable {st : Int} {d p : Sl}

/-! Sums -/
theorem sumTo_le {f : Int → Int} {B : Int} : ∀ {n : Nat}, (∀ i : Int, 0 ≤ i → i < n → 0 ≤ f i ∧ f i ≤ B) → 0 ≤ sumTo f n ∧ sumTo f n ≤ B * n
  | 0, _ => by simp [sumTo]
  | n + 1, h => by
    have h1 := sumTo_le (f := f) (n := n) (fun i h0 h1 => h i h0 (by omega))
    have h2 := h n (by omega) (by omega)
    simp only [sumTo]
    have : B * ((n + 1 : Nat) : Int) = B * n + B := by rw [Int.natCast_add, Int.mul_add]; simp
    omega
theorem sumTo_stop {f : Int → Int} {k : Nat} : ∀ {n : Nat}, k ≤ n → (∀ i : Int, (k : Int) ≤ i → i < n → f i = 0) → sumTo f n = sumTo f k
  | 0, h, _ => by have : k = 0 := by omega
                  rw [this]
  | n + 1, h, hz => by
    by_cases e : k = n + 1
    · rw [e]
    · simp only [sumTo]
      rw [sumTo_stop (n := n) (by omega) (fun i h0 h1 => hz i h0 (by omega)), hz n (by omega) (by omega), Int.add_zero]

theorem posted_bd (hv : validS st d p) (mo : Int) : -4398046511104000 ≤ postedS p mo ∧ postedS p mo ≤ 4398046511104000 := by
  have := L.postedS_bound hv mo; omega
theorem ov_bd (hv : validS st d p) {k : Int} (h0 : 0 ≤ k) (h1 : k < d.len) : -4400000000000000 ≤ ov st d p k ∧ ov st d p k ≤ 4398046511104000 := by
  have a := posted_bd hv (st + k)
  have b := hv.2.1 k h0 h1
  unfold ov; omega
theorem posi_bd (hv : validS st d p) {k : Int} (h0 : 0 ≤ k) (h1 : k < d.len) : 0 ≤ posi (ov st d p k) ∧ posi (ov st d p k) ≤ 4398046511104000 := by
  have a := ov_bd hv h0 h1
  unfold posi; split <;> omega
theorem out_bd (hv : validS st d p) (m : Int) {n : Nat} (hn : (n : Int) ≤ d.len) : 0 ≤ sumTo (fun k => if st + k < m then posi (ov st d p k) else 0) n ∧ sumTo (fun k => if st + k < m then posi (ov st d p k) else 0) n ≤ 5277655813324800000 := by
  have := sumTo_le (f := fun k => if st + k < m then posi (ov st d p k) else 0) (B := 4398046511104000) (n := n) (fun i h0 h1 => by
    have a := posi_bd hv h0 (show i < d.len by omega)
    show 0 ≤ (if st + i < m then posi (ov st d p i) else 0) ∧ (if st + i < m then posi (ov st d p i) else 0) ≤ 4398046511104000
    split <;> omega)
  have := hv.1.2.2.1
  omega

/-! The amounts by which months are overpaid -/
def OA (d : Sl) (i : Int) (s : Sl) : Prop := (0 ≤ i ∧ i ≤ d.len) ∧ s.len = d.len ∧ ∀ k : Int, 0 ≤ k → k < i → s.int k 0 = - d.int k 0
def OB (st : Int) (d p : Sl) (j : Int) (s : Sl) : Prop := (0 ≤ j ∧ j ≤ p.len) ∧ s.len = d.len ∧ ∀ k : Int, 0 ≤ k → k < d.len → s.int k 0 = sumTo (fun i => if p.int i 1 = st + k then prin p i else 0) j.toNat - d.int k 0
def OC (st : Int) (d p s : Sl) : Prop := s.len = d.len ∧ ∀ k : Int, 0 ≤ k → k < d.len → s.int k 0 = ov st d p k

theorem OA.init : OA d 0 (Sl.rep d.len [.int 0]) := by
  have d0 := len0 d
  refine ⟨⟨Int.le_refl _, d0⟩, ?_, fun k h0 h1 => by omega⟩
  show ((d.len.toNat : Nat) : Int) = d.len
  omega
theorem OA.step {i : Int} {s : Sl} (hv : validS st d p) (h : OA d i s) (hi : i < d.len) :
    0 ≤ i ∧ i < d.len ∧ (Rng .i64 (d.int i 0) → Rng .i64 (0 - d.int i 0) ∧ 0 ≤ i ∧ i < s.len ∧ Rng .i64 (i + 1) ∧ (OA d (i + 1) (Sl.upd s i 0 [.int (0 - d.int i 0)]) ∧ (d.len - (i + 1)).toNat < (d.len - i).toNat)) := by
  obtain ⟨⟨i0, i1⟩, hl, hk⟩ := h
  have b := hv.2.1 i i0 hi
  have := hv.1.2.2.1
  refine ⟨i0, hi, fun _ => ⟨by rw [rng64]; omega, i0, by omega, by rw [rng64]; omega, ⟨⟨by omega, by omega⟩, hl, fun k k0 k1 => ?_⟩, by omega⟩⟩
  rw [int_upd i0 k0]
  by_cases e : k = i
  · rw [if_pos e, e]; omega
  · rw [if_neg e]; exact hk k k0 (by omega)
theorem OA.fin {i : Int} {s : Sl} (h : OA d i s) (hi : ¬ i < d.len) : OB st d p 0 s := by
  obtain ⟨⟨i0, i1⟩, hl, hk⟩ := h
  refine ⟨⟨Int.le_refl _, len0 p⟩, hl, fun k k0 k1 => ?_⟩
  rw [hk k k0 (by omega)]
  show _ = 0 - d.int k 0
  omega
theorem OB.bd {j : Int} {s : Sl} (hv : validS st d p) (h : OB st d p j s) {k : Int} (k0 : 0 ≤ k) (k1 : k < d.len) : -4400000000000000 ≤ s.int k 0 ∧ s.int k 0 ≤ 4398046511104000 := by
  obtain ⟨⟨j0, j1⟩, hl, hk⟩ := h
  have := L.sumTo_bound (f := fun i => if p.int i 1 = st + k then prin p i else 0) (n := j.toNat) (fun i h0 h1 => by
    have := L.prin_bound (hv.2.2.2 i h0 (by omega))
    show -1099511627776 ≤ (if p.int i 1 = st + k then prin p i else 0) ∧ (if p.int i 1 = st + k then prin p i else 0) ≤ 1099511627776
    split <;> omega)
  have b := hv.2.1 k k0 k1
  have := hv.2.2.1
  rw [hk k k0 k1]
  omega
theorem OB.step {j : Int} {s : Sl} (hv : validS st d p) (h : OB st d p j s) (hj : j < p.len) :
    0 ≤ j ∧ j < p.len ∧ (Rng .i64 (p.int j 0) → Rng .i64 (p.int j 1) → Rng .u8 (p.int j 2) → Rng .i64 (p.int j 3) →
      ((p.int j 2 ≠ 3 → Rng .i64 (p.int j 1 - st) ∧ 0 ≤ p.int j 1 - st ∧ p.int j 1 - st < s.len ∧ (Rng .i64 (s.int (p.int j 1 - st) 0) → Rng .i64 (s.int (p.int j 1 - st) 0 + p.int j 3) ∧ 0 ≤ p.int j 1 - st ∧ p.int j 1 - st < s.len ∧ Rng .i64 (j + 1) ∧
          (OB st d p (j + 1) (Sl.upd s (p.int j 1 - st) 0 [.int (s.int (p.int j 1 - st) 0 + p.int j 3)]) ∧ (p.len - (j + 1)).toNat < (p.len - j).toNat))) ∧
       (¬ p.int j 2 ≠ 3 → Rng .i64 (j + 1) ∧ (OB st d p (j + 1) s ∧ (p.len - (j + 1)).toNat < (p.len - j).toNat)))) := by
  have h' := h
  obtain ⟨⟨j0, j1⟩, hl, hk⟩ := h
  have f := hv.2.2.2 j j0 hj
  have am := L.amt_bound f
  obtain ⟨⟨_, _, f1, f2⟩, _⟩ := f.1
  have := hv.2.2.1
  have hb := hv.1
  refine ⟨j0, hj, fun _ _ _ _ => ⟨fun h3 => ⟨by rw [rng64]; omega, by omega, by omega, fun _ => ?_⟩, fun h3 => ⟨by rw [rng64]; omega, ⟨⟨by omega, by omega⟩, hl, fun k k0 k1 => ?_⟩, by omega⟩⟩⟩
  · have b := h'.bd hv (k := p.int j 1 - st) (by omega) (by omega)
    refine ⟨by rw [rng64]; omega, by omega, by omega, by rw [rng64]; omega, ⟨⟨by omega, by omega⟩, hl, fun k k0 k1 => ?_⟩, by omega⟩
    rw [int_upd (by omega) k0, L.sumTo_succ _ j0]
    by_cases e : k = p.int j 1 - st
    · rw [if_pos e, ← e, hk k k0 k1, if_pos (by omega)]
      unfold prin
      rw [if_neg h3]; omega
    · rw [if_neg e, hk k k0 k1, if_neg (by omega)]; omega
  · rw [hk k k0 k1, L.sumTo_succ _ j0]
    unfold prin
    have h3 := Classical.not_not.1 h3
    rw [if_pos h3]
    split <;> omega
theorem OB.fin {j : Int} {s : Sl} (h : OB st d p j s) (hj : ¬ j < p.len) : OC st d p s := by
  obtain ⟨⟨j0, j1⟩, hl, hk⟩ := h
  refine ⟨hl, fun k k0 k1 => ?_⟩
  rw [hk k k0 k1]
  have : j.toNat = p.n := by unfold Sl.len at *; omega
  rw [this]
  rfl
end

theorem outstanding_ok : V_outstanding := by
  intro st _ d p m _ hv hsm
  have hv : validS st d p := hv
  have d0 := len0 d
  have p0 := len0 p
  have hd := hv.1.2.2.1
  have hb := hv.1
  refine ⟨d0, Int.le_refl _, by omega, fun _ => ⟨OA d, fun i _ => (d.len - i).toNat, OA.init, fun i _ s hA => ⟨fun hi => hA.step hv hi, fun hi _ => ⟨OB st d p, fun j _ => (p.len - j).toNat, hA.fin hi, fun j _ s hB => ⟨fun hj => hB.step hv hj, fun hj _ => ?_⟩⟩⟩⟩⟩
  obtain ⟨hl, hk⟩ := hB.fin hj
  refine ⟨fun k x => (0 ≤ k ∧ k ≤ d.len) ∧ x = sumTo (fun k => if st + k < m then posi (ov st d p k) else 0) k.toNat, fun k _ => (d.len - k).toNat, ⟨⟨Int.le_refl _, d0⟩, rfl⟩, fun k _ x _ hJ => ?_⟩
  obtain ⟨⟨k0, k1⟩, hx⟩ := hJ
  rw [hl]
  refine ⟨fun hlt => ⟨k0, hlt, fun _ => ⟨by rw [rng64]; omega, fun hge => ⟨?_, trivial⟩, fun hge => ?_⟩⟩, fun hge => ⟨?_, trivial⟩⟩
  · show x = outS st d p m
    rw [hx]
    refine (sumTo_stop (by unfold Sl.len at hlt; omega) fun i h0 h1 => ?_).symm
    rw [if_neg (by omega)]
  · have e := L.sumTo_succ (fun k => if st + k < m then posi (ov st d p k) else 0) k0
    have b := out_bd hv m (n := (k + 1).toNat) (by omega)
    rw [e, ← hx] at b
    have hm : st + k < m := by omega
    rw [if_pos hm] at b e
    rw [hk k k0 hlt]
    refine ⟨fun hp => ?_, fun hp => ?_⟩
    · have : posi (ov st d p k) = ov st d p k := by unfold posi; rw [if_pos hp]
      rw [this] at b e
      exact ⟨by rw [rng64]; omega, by rw [rng64]; omega, by rw [rng64]; omega, ⟨⟨by omega, by omega⟩, by rw [e, hx]⟩, by show (d.len - (k + 1)).toNat < (d.len - k).toNat; omega⟩
    · have : posi (ov st d p k) = 0 := by unfold posi; rw [if_neg hp]
      rw [this, Int.add_zero] at e
      exact ⟨by rw [rng64]; omega, ⟨⟨by omega, by omega⟩, by rw [e, hx]⟩, by show (d.len - (k + 1)).toNat < (d.len - k).toNat; omega⟩
  · show x = outS st d p m
    rw [hx]
    have : k.toNat = d.n := by unfold Sl.len at *; omega
    rw [this]; rfl

theorem Outstanding_ok : V_Outstanding := by
  intro st _ d _ p _ m _ _
  simp only [Bool.decide_eq_true]
  refine ⟨trivial, fun v hv => ⟨fun h => ⟨⟨fun _ => ⟨rfl, rfl⟩, fun k => absurd (hv.2 k) h⟩, trivial⟩, fun h => ?_⟩⟩
  have k1 := hv.1 (Classical.not_not.1 h)
  exact ⟨k1, fun x _ hx => ⟨⟨fun k => absurd k1 k, fun _ => ⟨hx, rfl⟩⟩, trivial⟩⟩

theorem xOpen_ok : V_xOpen := by
  intro st _ d p m _ ⟨hv, hm⟩
  have hb := hv.1
  obtain ⟨m0, m1⟩ := hm
  have b := hv.2.1 (m - st) (by omega) (by omega)
  refine ⟨by rw [rng64]; omega, by omega, by omega, fun _ => ⟨hv, fun x _ hx => ⟨?_, ?_, trivial⟩⟩⟩
  · have hx : x = postedS p m := hx
    have := posted_bd hv m
    rw [rng64]; omega
  · have hx : x = postedS p m := hx
    show _ = _
    rw [hx]

theorem xOutstanding_ok : V_xOutstanding := by
  intro st _ d p m _ hv
  have hv : validS st d p := hv
  have d0 := len0 d
  have hb := hv.1
  refine ⟨fun x k => (0 ≤ k ∧ k ≤ d.len) ∧ x = sumTo (fun k => if st + k < m then posi (ov st d p k) else 0) k.toNat, fun _ k => (d.len - k).toNat, ⟨⟨Int.le_refl _, d0⟩, rfl⟩, fun x _ k _ hJ _ => ?_⟩
  obtain ⟨⟨k0, k1⟩, hx⟩ := hJ
  refine ⟨fun hlt => ⟨by rw [rng64]; omega, ⟨hv, by omega, by omega⟩, fun o _ ho => ⟨by rw [rng64]; omega, ?_⟩⟩, fun hge => ⟨?_, trivial⟩⟩
  · have ho : o = d.int (st + k - st) 0 - postedS p (st + k) := ho
    rw [show st + k - st = k by omega] at ho
    have ho : o = - ov st d p k := by unfold ov; omega
    have e := L.sumTo_succ (fun k => if st + k < m then posi (ov st d p k) else 0) k0
    have b := out_bd hv m (n := (k + 1).toNat) (by omega)
    rw [e, ← hx] at b
    have bb := ov_bd hv k0 hlt
    refine ⟨fun hm => ?_, fun hm => ?_⟩
    · rw [if_pos hm] at b e
      refine ⟨fun hn => ?_, fun hn => ?_⟩
      · have : posi (ov st d p k) = ov st d p k := by unfold posi; rw [if_pos (by omega)]
        rw [this] at b e
        exact ⟨by rw [rng64]; omega, by rw [rng64]; omega, ⟨⟨by omega, by omega⟩, by rw [e]; omega⟩, by show (d.len - (k + 1)).toNat < (d.len - k).toNat; omega⟩
      · have : posi (ov st d p k) = 0 := by unfold posi; rw [if_neg (by omega)]
        rw [this, Int.add_zero] at e
        exact ⟨by rw [rng64]; omega, ⟨⟨by omega, by omega⟩, by rw [e, hx]⟩, by show (d.len - (k + 1)).toNat < (d.len - k).toNat; omega⟩
    · rw [if_neg hm, Int.add_zero] at e
      exact ⟨by rw [rng64]; omega, ⟨⟨by omega, by omega⟩, by rw [e, hx]⟩, by show (d.len - (k + 1)).toNat < (d.len - k).toNat; omega⟩
  · show x = outS st d p m
    rw [hx]
    have : k.toNat = d.n := by unfold Sl.len at *; omega
    rw [this]; rfl

section
variable {st : Int} {d p : Sl}
theorem limS_uniq {m : Int} {a c : Bool} {b f : Sl} {r e r' e' : Int} (h : limS st d p m a b c f r e) (g : limS st d p m a b c f r' e') : r = r' ∧ e = e' := by
  by_cases hv : validS st d p ∧ okShare a b c f
  · have h1 := h.2 hv
    have g1 := g.2 hv
    by_cases hm : hasS st d m
    · have h2 := h1.2 hm
      have g2 := g1.2 hm
      by_cases hf : fitQ (fq a b f * ((d.int (m - st) 0 : Int) : Rat))
      · have h3 := h2.1 hf; have g3 := g2.1 hf; exact ⟨by omega, by omega⟩
      · have h3 := h2.2 hf; have g3 := g2.2 hf; exact ⟨by omega, by omega⟩
    · have h2 := h1.1 hm; have g2 := g1.1 hm; exact ⟨by omega, by omega⟩
  · have h2 := h.1 hv; have g2 := g.1 hv; exact ⟨by omega, by omega⟩
/-- A limit without error. -/
theorem limS_ok {m : Int} {a c : Bool} {b f : Sl} {r : Int} (h : limS st d p m a b c f r 0) : validS st d p ∧ okShare a b c f ∧ hasS st d m ∧ fitQ (fq a b f * ((d.int (m - st) 0 : Int) : Rat)) ∧ r = (fq a b f * ((d.int (m - st) 0 : Int) : Rat)).floor ∧ 0 ≤ r ∧ r ≤ 1099511627776 := by
  by_cases hv : validS st d p ∧ okShare a b c f
  · have h1 := h.2 hv
    by_cases hm : hasS st d m
    · have h2 := h1.2 hm
      by_cases hf : fitQ (fq a b f * ((d.int (m - st) 0 : Int) : Rat))
      · have h3 := (h2.1 hf).1
        have b := hv.1.2.1 (m - st) (by have := hm.1; omega) (by have := hm.2; omega)
        have fb := share_bd hv.2.2.1 hv.2.2.2 b.1 b.2
        exact ⟨hv.1, hv.2, hm, hf, h3, by omega, by omega⟩
      · have := (h2.2 hf).2; omega
    · have := (h1.1 hm).2; omega
  · have := (h.1 hv).2; omega

/-! What is taken -/
theorem use_bd (hv : validS st d p) {m l : Int} {k : Int} (k0 : 0 ≤ k) (k1 : k < d.len) (hl : 0 ≤ l) : 0 ≤ useS st d p m l k ∧ useS st d p m l k ≤ l := by
  have b := posi_bd hv k0 k1
  unfold useS imin
  split
  · split <;> omega
  · omega
theorem left_bd (hv : validS st d p) {m lim : Int} (hl : 0 ≤ lim) : ∀ {n : Nat}, (n : Int) ≤ d.len → 0 ≤ leftS st d p m lim n ∧ leftS st d p m lim n ≤ lim
  | 0, _ => ⟨hl, Int.le_refl _⟩
  | n + 1, hn => by
    have ih := left_bd hv (m := m) hl (n := n) (by omega)
    have u := use_bd hv (m := m) (l := leftS st d p m lim n) (k := n) (by omega) (by omega) ih.1
    simp only [leftS]
    omega
theorem rows_len {day m lim : Int} : ∀ n : Nat, (rowsS st d p day m lim n).length ≤ n
  | 0 => Nat.le_refl _
  | n + 1 => by
    have ih := rows_len (day := day) (m := m) (lim := lim) n
    simp only [rowsS]
    split
    · simp; omega
    · omega
theorem rows_stop {day m lim : Int} {k : Nat} : ∀ {n : Nat}, k ≤ n → (∀ i : Nat, k ≤ i → i < n → leftS st d p m lim i = leftS st d p m lim k → usedS st d p m lim i = 0) → rowsS st d p day m lim n = rowsS st d p day m lim k ∧ leftS st d p m lim n = leftS st d p m lim k
  | 0, h, _ => by have : k = 0 := by omega
                  subst this; exact ⟨rfl, rfl⟩
  | n + 1, h, hz => by
    by_cases e : k = n + 1
    · subst e; exact ⟨rfl, rfl⟩
    · obtain ⟨r, l⟩ := rows_stop (day := day) (n := n) (by omega) (fun i h0 h1 => hz i h0 (by omega))
      have u := hz n (by omega) (by omega) l
      simp only [rowsS, leftS]
      rw [if_neg (by omega), r]
      have u' : useS st d p m (leftS st d p m lim n) n = 0 := u
      exact ⟨rfl, by rw [u', Int.sub_zero, l]⟩
/-- Nothing more is taken behind the month. -/
theorem rows_month {day m lim : Int} {k : Nat} (hk : k ≤ d.n) (hm : m ≤ st + k) : rowsS st d p day m lim d.n = rowsS st d p day m lim k :=
  (rows_stop hk fun i h0 _ _ => by unfold usedS useS; rw [if_neg (by omega)]).1
/-- Nothing more is taken where nothing is left. -/
theorem rows_empty (hv : validS st d p) {day m lim : Int} {k : Nat} (hk : k ≤ d.n) (hl : leftS st d p m lim k = 0) : rowsS st d p day m lim d.n = rowsS st d p day m lim k :=
  (rows_stop hk fun i h0 h1 hi => by
    unfold usedS useS
    rw [hi, hl]
    have b := posi_bd hv (k := i) (by omega) (by unfold Sl.len; omega)
    unfold imin
    split
    · split <;> omega
    · rfl).1
theorem rows_skip {day m lim : Int} {k : Int} (k0 : 0 ≤ k) (h : usedS st d p m lim k.toNat = 0) : rowsS st d p day m lim (k + 1).toNat = rowsS st d p day m lim k.toNat ∧ leftS st d p m lim (k + 1).toNat = leftS st d p m lim k.toNat := by
  have e : (k + 1).toNat = k.toNat + 1 := by omega
  rw [e]
  simp only [rowsS, leftS]
  rw [if_neg (by omega)]
  have h' : useS st d p m (leftS st d p m lim k.toNat) k.toNat = 0 := h
  exact ⟨rfl, by rw [h', Int.sub_zero]⟩
theorem rows_take {day m lim : Int} {k u : Int} (k0 : 0 ≤ k) (h : usedS st d p m lim k.toNat = u) (hu : 0 < u) : Sl.lit (rowsS st d p day m lim (k + 1).toNat) = Sl.app (Sl.lit (rowsS st d p day m lim k.toNat)) (Sl.lit [[.int day, .int (st + k), .int 4, .int (0 - u)]]) ∧ leftS st d p m lim (k + 1).toNat = leftS st d p m lim k.toNat - u := by
  have e : (k + 1).toNat = k.toNat + 1 := by omega
  rw [e]
  simp only [rowsS, leftS]
  have h' : useS st d p m (leftS st d p m lim k.toNat) k.toNat = u := h
  rw [h, if_pos hu, lit_app, h']
  have e2 : ((k.toNat : Nat) : Int) = k := by omega
  rw [e2, Int.zero_sub]
  exact ⟨rfl, rfl⟩
end

theorem take_err {st : Int} {d p : Sl} {day m : Int} {a c : Bool} {b f : Sl} {r e : Int} (h : limS st d p m a b c f r e) (he : e ≠ 0) : takeS st d p day m a b c f Sl.nil e := fun r' e' h' => by
  obtain ⟨rfl, rfl⟩ := limS_uniq h h'
  exact ⟨fun _ => ⟨rfl, rfl⟩, fun k => absurd k he⟩
theorem take_day {st : Int} {d p : Sl} {day m : Int} {a c : Bool} {b f : Sl} {r : Int} (h : limS st d p m a b c f r 0) (hd : ¬ (0 ≤ day ∧ day < 65536)) : takeS st d p day m a b c f Sl.nil 2 := fun r' e' h' => by
  obtain ⟨rfl, rfl⟩ := limS_uniq h h'
  exact ⟨fun k => absurd rfl k, fun _ => ⟨fun _ => ⟨rfl, rfl⟩, fun k => absurd k hd⟩⟩
theorem eqPosts_refl (s : Sl) : eqPosts s s := ⟨rfl, fun _ _ _ => ⟨rfl, rfl, rfl, rfl⟩⟩
theorem take_ok {st : Int} {d p : Sl} {day m : Int} {a c : Bool} {b f : Sl} {r : Int} (h : limS st d p m a b c f r 0) (hd : 0 ≤ day ∧ day < 65536) {s : Sl} (hs : s = Sl.lit (rowsS st d p day m r d.n)) : takeS st d p day m a b c f s 0 := fun r' e' h' => by
  obtain ⟨rfl, rfl⟩ := limS_uniq h h'
  exact ⟨fun k => absurd rfl k, fun _ => ⟨fun k => absurd hd k, fun _ => ⟨by rw [hs]; exact eqPosts_refl _, rfl⟩⟩⟩

theorem Take_ok : V_Take := by
  intro st _ d _ p _ day _ m _ a b rb c f rf _
  simp only [Bool.decide_eq_true]
  refine ⟨trivial, fun lim _ e _ hl => ⟨fun he => ⟨take_err hl he, trivial⟩, fun he => ?_⟩⟩
  have he : e = 0 := Classical.not_not.1 he
  subst he
  have hl : limS st d p m a b c f lim 0 := hl
  obtain ⟨hv, hs, hm, hf, hr, l0, l1⟩ := limS_ok hl
  refine ⟨fun h => ⟨take_day hl (by omega), trivial⟩, fun h1 => ⟨fun h => ⟨take_day hl (by omega), trivial⟩, fun h2 _ => ?_⟩⟩
  have hday : 0 ≤ day ∧ day < 65536 := ⟨by omega, by omega⟩
  have d0 := len0 d
  have p0 := len0 p
  have hd := hv.1.2.2.1
  have hb := hv.1
  refine ⟨d0, Int.le_refl _, by omega, fun _ => ⟨OA d, fun i _ => (d.len - i).toNat, OA.init, fun i _ s _ hA => ⟨fun hi => hA.step hv hi, fun hi _ => ⟨OB st d p, fun j _ => (p.len - j).toNat, hA.fin hi, fun j _ s _ hB => ⟨fun hj => hB.step hv hj, fun hj _ => ?_⟩⟩⟩⟩⟩
  obtain ⟨hl', hk⟩ := hB.fin hj
  refine ⟨fun k x s => (0 ≤ k ∧ k ≤ d.len) ∧ x = leftS st d p m lim k.toNat ∧ s = Sl.lit (rowsS st d p day m lim k.toNat), fun k _ _ => (d.len - k).toNat, ⟨⟨Int.le_refl _, d0⟩, rfl, nil_lit⟩, fun k _ x _ t _ hJ => ?_⟩
  obtain ⟨⟨k0, k1⟩, hx, ht⟩ := hJ
  have lb := left_bd hv (m := m) l0 (n := k.toNat) (by omega)
  rw [← hx] at lb
  rw [hl']
  have fin : ∀ n : Nat, n = d.n → rowsS st d p day m lim d.n = rowsS st d p day m lim k.toNat → takeS st d p day m a b c f t 0 := fun n _ e => take_ok hl hday (by rw [ht, e])
  refine ⟨fun hlt => ⟨k0, hlt, fun _ => ⟨by rw [rng64]; omega, fun hge => ⟨fin _ rfl (rows_month (by unfold Sl.len at hlt; omega) (by omega)), trivial⟩, fun hge => ?_⟩⟩, fun hge => ⟨fin _ rfl ?_, trivial⟩⟩
  · have ob := ov_bd hv k0 hlt
    have pb := posi_bd hv k0 hlt
    have hu : usedS st d p m lim k.toNat = imin (posi (ov st d p k)) x := by
      unfold usedS useS
      have e2 : ((k.toNat : Nat) : Int) = k := by omega
      rw [e2, if_pos (by omega), ← hx]
    rw [hk k k0 hlt]
    refine ⟨fun hp => ⟨by rw [rng64]; omega, fun hz => ⟨fin _ rfl (rows_empty hv (by unfold Sl.len at hlt; omega) (by omega)), trivial⟩, fun hz => ?_⟩, fun hp => ?_⟩
    · have hpo : posi (ov st d p k) = ov st d p k := by unfold posi; rw [if_pos hp]
      rw [hpo] at hu
      obtain ⟨u, hU⟩ : ∃ u, u = imin (ov st d p k) x := ⟨_, rfl⟩
      have ub : 0 < u ∧ u ≤ x := by rw [hU]; unfold imin; split <;> omega
      rw [← hU] at hu ⊢
      obtain ⟨t1, t2⟩ := rows_take (day := day) k0 hu ub.1
      have rl := rows_len (st := st) (d := d) (p := p) (day := day) (m := m) (lim := lim) k.toNat
      have tl : t.len ≤ k := by rw [ht, len_lit]; omega
      have o1 : (Sl.lit [[D.int day, .int (st + k), .int 4, .int (0 - u)]]).len = 1 := rfl
      have nx : ((0 ≤ k + 1 ∧ k + 1 ≤ d.len) ∧ x - u = leftS st d p m lim (k + 1).toNat ∧ Sl.app t (Sl.lit [[D.int day, .int (st + k), .int 4, .int (0 - u)]]) = Sl.lit (rowsS st d p day m lim (k + 1).toNat)) ∧ (d.len - (k + 1)).toNat < (d.len - k).toNat :=
        ⟨⟨⟨by omega, by omega⟩, by rw [t2, hx], by rw [t1, ht]⟩, by omega⟩
      have ap : (t.len + (Sl.lit [[D.int day, .int (st + k), .int 4, .int (0 - u)]]).len) * 32 ≤ 140737488355328 := by rw [o1]; omega
      exact ⟨⟨by rw [rng64]; omega, by rw [rng64]; omega, ap, by rw [rng64]; omega, nx⟩, ⟨by rw [rng64]; omega, by rw [rng64]; omega, ⟨ap, by rw [rng64]; omega, nx⟩, ⟨ap, by rw [rng64]; omega, nx⟩⟩⟩
    · have hpo : posi (ov st d p k) = 0 := by unfold posi; rw [if_neg hp]
      have hu0 : usedS st d p m lim k.toNat = 0 := by rw [hu, hpo]; unfold imin; split <;> omega
      obtain ⟨s1, s2⟩ := rows_skip (day := day) k0 hu0
      exact ⟨by rw [rng64]; omega, ⟨⟨by omega, by omega⟩, by rw [s2, hx], by rw [s1, ht]⟩, by show (d.len - (k + 1)).toNat < (d.len - k).toNat; omega⟩
  · have : k.toNat = d.n := by unfold Sl.len at *; omega
    rw [this]

theorem xTake_ok : V_xTake := by
  intro st _ d _ p _ day _ m _ a b rb c f rf _
  simp only [Bool.decide_eq_true]
  refine ⟨trivial, fun lim _ e _ hl => ⟨fun he => ⟨take_err hl he, trivial⟩, fun he => ?_⟩⟩
  have he : e = 0 := Classical.not_not.1 he
  subst he
  have hl : limS st d p m a b c f lim 0 := hl
  obtain ⟨hv, hs, hm, hf, hr, l0, l1⟩ := limS_ok hl
  refine ⟨fun h => ⟨take_day hl (by omega), trivial⟩, fun h1 => ⟨fun h => ⟨take_day hl (by omega), trivial⟩, fun h2 => ?_⟩⟩
  have hday : 0 ≤ day ∧ day < 65536 := ⟨by omega, by omega⟩
  have d0 := len0 d
  have hd := hv.1.2.2.1
  have hb := hv.1
  refine ⟨fun x s k => (0 ≤ k ∧ k ≤ d.len) ∧ x = leftS st d p m lim k.toNat ∧ s = Sl.lit (rowsS st d p day m lim k.toNat), fun _ _ k => (d.len - k).toNat, ⟨⟨Int.le_refl _, d0⟩, rfl, nil_lit⟩, fun x _ t _ k _ hJ _ => ?_⟩
  obtain ⟨⟨k0, k1⟩, hx, ht⟩ := hJ
  have lb := left_bd hv (m := m) l0 (n := k.toNat) (by omega)
  rw [← hx] at lb
  have skip : k < d.len → usedS st d p m lim k.toNat = 0 → Rng .i64 (k + 1) ∧ ((0 ≤ k + 1 ∧ k + 1 ≤ d.len) ∧ x = leftS st d p m lim (k + 1).toNat ∧ t = Sl.lit (rowsS st d p day m lim (k + 1).toNat)) ∧ (d.len - (k + 1)).toNat < (d.len - k).toNat := fun hlt h0 => by
    obtain ⟨s1, s2⟩ := rows_skip (day := day) k0 h0
    exact ⟨by rw [rng64]; omega, ⟨⟨by omega, by omega⟩, by rw [s2, hx], by rw [s1, ht]⟩, by omega⟩
  refine ⟨fun hlt => ⟨by rw [rng64]; omega, ⟨hv, by omega, by omega⟩, fun o _ ho => ⟨by rw [rng64]; omega, fun hge => skip hlt ?_, fun hge => ?_⟩⟩, fun hge => ⟨take_ok hl hday ?_, trivial⟩⟩
  · unfold usedS useS
    rw [if_neg (by omega)]
  · have ho : o = d.int (st + k - st) 0 - postedS p (st + k) := ho
    rw [show st + k - st = k by omega] at ho
    have ho : o = - ov st d p k := by unfold ov; omega
    have ob := ov_bd hv k0 hlt
    have hu : usedS st d p m lim k.toNat = imin (posi (ov st d p k)) x := by
      unfold usedS useS
      have e2 : ((k.toNat : Nat) : Int) = k := by omega
      rw [e2, if_pos (by omega), ← hx]
    refine ⟨fun hn => skip hlt ?_, fun hn => ⟨fun hz => skip hlt ?_, fun hz => ?_⟩⟩
    · have : posi (ov st d p k) = 0 := by unfold posi; rw [if_neg (by omega)]
      rw [hu, this]; unfold imin; split <;> omega
    · have := posi_bd hv k0 hlt
      rw [hu, hz]; unfold imin; split <;> omega
    · have hpo : posi (ov st d p k) = ov st d p k := by unfold posi; rw [if_pos (by omega)]
      rw [hpo] at hu
      have rl := rows_len (st := st) (d := d) (p := p) (day := day) (m := m) (lim := lim) k.toNat
      have tl : t.len ≤ k := by rw [ht, len_lit]; omega
      have go : ∀ u am : Int, usedS st d p m lim k.toNat = u → 0 < u → u ≤ x → am = 0 - u → Rng .i64 (st + k) ∧ (t.len + (Sl.lit [[D.int day, .int (st + k), .int 4, .int am]]).len) * 32 ≤ 140737488355328 ∧ Rng .i64 (k + 1) ∧ ((0 ≤ k + 1 ∧ k + 1 ≤ d.len) ∧ x + am = leftS st d p m lim (k + 1).toNat ∧ Sl.app t (Sl.lit [[D.int day, .int (st + k), .int 4, .int am]]) = Sl.lit (rowsS st d p day m lim (k + 1).toNat)) ∧ (d.len - (k + 1)).toNat < (d.len - k).toNat := by
        rintro u am h0 h1 h2 rfl
        obtain ⟨t1, t2⟩ := rows_take (day := day) k0 h0 h1
        have o1 : (Sl.lit [[D.int day, .int (st + k), .int 4, .int (0 - u)]]).len = 1 := rfl
        exact ⟨by rw [rng64]; omega, by rw [o1]; omega, by rw [rng64]; omega, ⟨⟨by omega, by omega⟩, by rw [t2, hx]; omega, by rw [t1, ht]⟩, by omega⟩
      refine ⟨by rw [rng64]; omega, fun hgt => ?_, fun hle => ?_⟩
      · obtain ⟨g1, g2, g3, g4⟩ := go x (0 - x) (by rw [hu]; unfold imin; rw [if_pos (by omega)]) (by omega) (Int.le_refl _) rfl
        exact ⟨by rw [rng64]; omega, by rw [rng64]; omega, g1, g2, g3, g4⟩
      · obtain ⟨g1, g2, g3, g4⟩ := go (ov st d p k) o (by rw [hu]; unfold imin; rw [if_neg (by omega)]) (by omega) (by omega) (by omega)
        exact ⟨by rw [rng64]; omega, g1, g2, g3, g4⟩
  · rw [ht]
    have : k.toNat = d.n := by unfold Sl.len at *; omega
    rw [this]

theorem take_len {st : Int} {d p : Sl} {day m : Int} {a c : Bool} {b f : Sl} {s : Sl} {e r e0 : Int} (h : takeS st d p day m a b c f s e) (hl : limS st d p m a b c f r e0) : s.len ≤ 1200 := by
  have t := h r e0 hl
  by_cases he : e0 = 0
  · have t2 := t.2 he
    subst he
    have v := (limS_ok hl).1.1
    by_cases hd : 0 ≤ day ∧ day < 65536
    · have k := (t2.2 hd).1.1
      have rl := rows_len (st := st) (d := d) (p := p) (day := day) (m := m) (lim := r) d.n
      rw [len_lit] at k
      unfold Sl.len at *
      omega
    · have := (t2.1 hd).1; omega
  · have := (t.1 he).1; omega

theorem lim_ex (st : Int) (d p : Sl) (m : Int) (a c : Bool) (b f : Sl) : ∃ r e, limS st d p m a b c f r e := by
  by_cases hv : validS st d p ∧ okShare a b c f
  · by_cases hm : hasS st d m
    · by_cases hf : fitQ (fq a b f * ((d.int (m - st) 0 : Int) : Rat))
      · exact ⟨_, 0, fun k => absurd hv k, fun _ => ⟨fun k => absurd hm k, fun _ => ⟨fun _ => ⟨rfl, rfl⟩, fun k => absurd hf k⟩⟩⟩
      · exact ⟨0, 3, fun k => absurd hv k, fun _ => ⟨fun k => absurd hm k, fun _ => ⟨fun k => absurd k hf, fun _ => ⟨rfl, rfl⟩⟩⟩⟩
    · exact ⟨0, 6, fun k => absurd hv k, fun _ => ⟨fun _ => ⟨rfl, rfl⟩, fun k => absurd k hm⟩⟩
  · exact ⟨0, 2, fun _ => ⟨rfl, rfl⟩, fun k => absurd k hv⟩

theorem Apply_ok : V_Apply := by
  intro st _ d _ p _ day _ m _ a b rb c f rf _
  simp only [Bool.decide_eq_true]
  refine ⟨trivial, fun s _ e _ ht => ⟨fun he => ⟨⟨s, e, ht, fun _ => ⟨⟨rfl, rfl, rfl⟩, rfl⟩, fun k => absurd k he⟩, trivial⟩, fun he => ?_⟩⟩
  have he : e = 0 := Classical.not_not.1 he
  obtain ⟨r, e0, hl⟩ := lim_ex st d p m a c b f
  have sl := take_len ht hl
  exact ⟨by show s.len ≤ 1000000; omega, fun st' _ d' _ p' _ e' _ hq => ⟨⟨s, e, ht, fun k => absurd he k, fun _ => hq⟩, trivial⟩⟩

/-! Months after each other -/
theorem Runs_ok : V_Runs := by
  intro st _ d _ p _ m rm a b rb c f rf _
  simp only [Bool.decide_eq_true]
  refine ⟨trivial, fun lim _ e _ hl => ?_⟩
  have hl : limS st d p m a b c f lim e := hl
  refine ⟨fun he => ⟨fun r' e' h' => ?_, trivial⟩, fun he => ?_⟩
  · obtain ⟨rfl, rfl⟩ := limS_uniq hl h'
    exact ⟨fun _ => ⟨rfl, rfl⟩, fun k => absurd k he⟩
  have he : e = 0 := Classical.not_not.1 he
  subst he
  obtain ⟨hv, hs, hm, hf, hr, l0, l1⟩ := limS_ok hl
  have hb := hv.1
  obtain ⟨m0, m1⟩ := hm
  have fin : ∀ n e, runsD st d p m (fq a b f) n e → q_Runs st d p m a b c f n e ∧ True := fun n e h => ⟨fun r' e' h' => by
    obtain ⟨rfl, rfl⟩ := limS_uniq hl h'
    exact ⟨fun k => absurd rfl k, fun _ => h⟩, trivial⟩
  refine ⟨hv, fun out _ ho => ?_⟩
  have ho : out = outS st d p m := ho
  have ob : 0 ≤ outS st d p m ∧ outS st d p m ≤ 5277655813324800000 := out_bd hv m (n := d.n) (Int.le_refl _)
  refine ⟨fun x n => 0 ≤ n ∧ x = outS st d p m - cumS st d m (fq a b f) n.toNat ∧ underS st d p m (fq a b f) n.toNat ∧ -1099511627776 ≤ x ∧ x ≤ outS st d p m, fun _ n => (st + d.len - m - n).toNat, ⟨Int.le_refl _, by rw [ho]; show _ = _ - 0; omega, fun k hk => by exact absurd hk (by simp), by omega, by omega⟩, fun x _ n _ hJ => ?_⟩
  obtain ⟨n0, hx, hu, x0, x1⟩ := hJ
  have en : ((n.toNat : Nat) : Int) = n := by omega
  have nb : n ≤ d.len := by
    rcases Int.lt_or_le n 1 with h | h
    · have := len0 d; omega
    · have := (hu (n.toNat - 1) (by omega)).2.1.2
      omega
  refine ⟨fun hp => ⟨by rw [rng64]; omega, ⟨hv, hs⟩, fun r _ e _ hq => ?_⟩, fun hp => fin _ _ (.inl ⟨rfl, n.toNat, en.symm, hu, by omega⟩)⟩
  have hq : limM st d (m + n) (fq a b f) r e := hq
  refine ⟨fun he => fin _ _ (.inr ⟨rfl, he, n.toNat, hu, by omega, ?_⟩), fun he => ?_⟩
  · rw [en]
    by_cases hh : hasS st d (m + n)
    · refine .inr ⟨hh, ?_⟩
      have h2 := hq.2 hh
      by_cases hf : fitQ (fq a b f * ((d.int (m + n - st) 0 : Int) : Rat))
      · exact absurd (h2.1 hf).2 he
      · exact ⟨hf, (h2.2 hf).2⟩
    · exact .inl ⟨hh, (hq.1 hh).2⟩
  · have he : e = 0 := Classical.not_not.1 he
    by_cases hh : hasS st d (m + n)
    · have h2 := hq.2 hh
      by_cases hf : fitQ (fq a b f * ((d.int (m + n - st) 0 : Int) : Rat))
      · have h3 := (h2.1 hf).1
        have b' := hv.2.1 (m + n - st) (by have := hh.1; omega) (by have := hh.2; omega)
        have fb := share_bd hs.2.1 hs.2.2 b'.1 b'.2
        rw [← h3] at fb
        have hh2 := hh.2
        have e1 : (n + 1).toNat = n.toNat + 1 := by omega
        refine ⟨by rw [rng64]; omega, by rw [rng64]; omega, ⟨by omega, ?_, ?_, by omega, by omega⟩, by show (st + d.len - m - (n + 1)).toNat < (st + d.len - m - n).toNat; omega⟩
        · rw [e1]
          simp only [cumS]
          rw [en, ← h3]; omega
        · intro k hk
          rw [e1] at hk
          by_cases ek : k = n.toNat
          · subst ek
            rw [en]
            exact ⟨by omega, hh, hf⟩
          · exact hu k (by omega)
      · have := (h2.2 hf).2; omega
    · have := (hq.1 hh).2; omega

theorem xRuns_ok : V_xRuns := by
  intro st _ d _ p _ m rm a b rb c f rf _
  simp only [Bool.decide_eq_true]
  refine ⟨trivial, fun lim _ e _ hl => ?_⟩
  have hl : limS st d p m a b c f lim e := hl
  refine ⟨fun he => ⟨fun r' e' h' => ?_, trivial⟩, fun he => ?_⟩
  · obtain ⟨rfl, rfl⟩ := limS_uniq hl h'
    exact ⟨fun _ => ⟨rfl, rfl⟩, fun k => absurd k he⟩
  have he : e = 0 := Classical.not_not.1 he
  subst he
  obtain ⟨hv, hs, hm, hf, hr, l0, l1⟩ := limS_ok hl
  have hb := hv.1
  obtain ⟨m0, m1⟩ := hm
  have fin : ∀ n e, runsD st d p m (fq a b f) n e → q_xRuns st d p m a b c f n e ∧ True := fun n e h => ⟨fun r' e' h' => by
    obtain ⟨rfl, rfl⟩ := limS_uniq hl h'
    exact ⟨fun k => absurd rfl k, fun _ => h⟩, trivial⟩
  refine ⟨hv, fun out _ ho => ?_⟩
  have ho : out = outS st d p m := ho
  have ob : 0 ≤ outS st d p m ∧ outS st d p m ≤ 5277655813324800000 := out_bd hv m (n := d.n) (Int.le_refl _)
  refine ⟨fun x n => 0 ≤ n ∧ x = cumS st d m (fq a b f) n.toNat ∧ underS st d p m (fq a b f) n.toNat ∧ 0 ≤ x ∧ x ≤ outS st d p m + 1099511627776, fun _ n => (st + d.len - m - n).toNat, ⟨Int.le_refl _, rfl, fun k hk => by exact absurd hk (by simp), by omega, by omega⟩, fun x _ n _ hJ => ?_⟩
  obtain ⟨n0, hx, hu, x0, x1⟩ := hJ
  have en : ((n.toNat : Nat) : Int) = n := by omega
  have nb : n ≤ d.len := by
    rcases Int.lt_or_le n 1 with h | h
    · have := len0 d; omega
    · have := (hu (n.toNat - 1) (by omega)).2.1.2
      omega
  refine ⟨fun hp => fin _ _ (.inl ⟨rfl, n.toNat, en.symm, hu, by omega⟩), fun hp => ⟨by rw [rng64]; omega, trivial, fun r _ e _ hq => ?_⟩⟩
  have hq : limS st d p (m + n) a b c f r e := hq
  have hq := hq.2 ⟨hv, hs⟩
  refine ⟨fun he => fin _ _ (.inr ⟨rfl, he, n.toNat, hu, by omega, ?_⟩), fun he => ?_⟩
  · rw [en]
    by_cases hh : hasS st d (m + n)
    · refine .inr ⟨hh, ?_⟩
      have h2 := hq.2 hh
      by_cases hf : fitQ (fq a b f * ((d.int (m + n - st) 0 : Int) : Rat))
      · exact absurd (h2.1 hf).2 he
      · exact ⟨hf, (h2.2 hf).2⟩
    · exact .inl ⟨hh, (hq.1 hh).2⟩
  · have he : e = 0 := Classical.not_not.1 he
    by_cases hh : hasS st d (m + n)
    · have h2 := hq.2 hh
      by_cases hf : fitQ (fq a b f * ((d.int (m + n - st) 0 : Int) : Rat))
      · have h3 := (h2.1 hf).1
        have b' := hv.2.1 (m + n - st) (by have := hh.1; omega) (by have := hh.2; omega)
        have fb := share_bd hs.2.1 hs.2.2 b'.1 b'.2
        rw [← h3] at fb
        have hh2 := hh.2
        have e1 : (n + 1).toNat = n.toNat + 1 := by omega
        refine ⟨by rw [rng64]; omega, by rw [rng64]; omega, ⟨by omega, ?_, ?_, by omega, by omega⟩, by show (st + d.len - m - (n + 1)).toNat < (st + d.len - m - n).toNat; omega⟩
        · rw [e1]
          simp only [cumS]
          rw [en, ← h3, hx]
        · intro k hk
          rw [e1] at hk
          by_cases ek : k = n.toNat
          · subst ek
            rw [en]
            exact ⟨by omega, hh, hf⟩
          · exact hu k (by omega)
      · have := (h2.2 hf).2; omega
    · have := (hq.1 hh).2; omega

/-! Postings behind each other -/
theorem follow_app {st n : Int} {p q r : Sl} (hr : behind p q r) (d0 : Int) : followS st n r d0 ↔ followS st n p d0 ∧ followS st n q (if 0 < p.len then p.int (p.len - 1) 0 else d0) := by
  obtain ⟨hl, ha, hb⟩ := hr
  have p0 := len0 p
  have q0 := len0 q
  have fa : ∀ i : Int, 0 ≤ i → i < p.len → (okAt st n r d0 i ↔ okAt st n p d0 i) := fun i i0 i1 => by
    obtain ⟨a0, a1, a2, a3⟩ := ha i i0 i1
    have pv : prev r d0 i = prev p d0 i := by
      unfold prev
      split
      · rfl
      · exact (ha (i - 1) (by omega) (by omega)).1
    unfold okAt fitAt
    rw [a0, a1, a2, a3, pv]
  have fb : ∀ i : Int, 0 ≤ i → i < q.len → (okAt st n r d0 (p.len + i) ↔ okAt st n q (if 0 < p.len then p.int (p.len - 1) 0 else d0) i) := fun i i0 i1 => by
    obtain ⟨a0, a1, a2, a3⟩ := hb i i0 i1
    have pv : prev r d0 (p.len + i) = prev q (if 0 < p.len then p.int (p.len - 1) 0 else d0) i := by
      unfold prev
      by_cases e : i = 0
      · subst e
        rw [if_pos rfl, Int.add_zero]
        by_cases ep : 0 < p.len
        · rw [if_neg (by omega), if_pos ep]
          exact (ha (p.len - 1) (by omega) (by omega)).1
        · rw [if_pos (by omega), if_neg ep]
      · rw [if_neg (by omega), if_neg e, show p.len + i - 1 = p.len + (i - 1) by omega]
        exact (hb (i - 1) (by omega) (by omega)).1
    unfold okAt fitAt
    rw [a0, a1, a2, a3, pv]
  constructor
  · intro h
    exact ⟨fun i i0 i1 => (fa i i0 i1).1 (h i i0 (by omega)), fun i i0 i1 => (fb i i0 i1).1 (h (p.len + i) (by omega) (by omega))⟩
  · rintro ⟨h1, h2⟩ i i0 i1
    by_cases e : i < p.len
    · exact (fa i i0 e).2 (h1 i i0 e)
    · have := (fb (i - p.len) (by omega) (by omega)).2 (h2 (i - p.len) (by omega) (by omega))
      rwa [show p.len + (i - p.len) = i by omega] at this

theorem xPost_ok : V_xPost := by
  intro st _ d p q hp
  obtain ⟨p1, q1⟩ := hp
  have p0 := len0 p
  have q0 := len0 q
  have e0 : (Sl.lit []).len = 0 := rfl
  have e1 : (Sl.app (Sl.lit []) p).len = p.len := L.len_nilapp p
  obtain ⟨r, hr⟩ : ∃ r, r = Sl.app (Sl.app (Sl.lit []) p) q := ⟨_, rfl⟩
  have hb : behind p q r := by
    rw [hr]
    refine ⟨by rw [len_app, e1], fun i i0 i1 => ?_, fun i i0 i1 => ?_⟩
    · have lt : ∀ j, (Sl.app (Sl.app (Sl.lit []) p) q).int i j = p.int i j := fun j => by rw [int_app_lt (a := Sl.app (Sl.lit []) p) i0 (by rw [e1]; exact i1), L.int_nilapp i0]
      exact ⟨lt 0, lt 1, lt 2, lt 3⟩
    · have ge : ∀ j, (Sl.app (Sl.app (Sl.lit []) p) q).int (p.len + i) j = q.int i j := fun j => by rw [int_app_ge (a := Sl.app (Sl.lit []) p) (by rw [e1]; omega), e1, show p.len + i - p.len = i by omega]
      exact ⟨ge 0, ge 1, ge 2, ge 3⟩
  rw [← hr]
  have bad : ¬ postOk st d p q → q_xPost st d p q 0 Sl.nil Sl.nil 2 ∧ True := fun h => ⟨⟨fun _ => ⟨rfl, rfl, rfl, rfl⟩, fun k => absurd k h⟩, trivial⟩
  refine ⟨by omega, by rw [e1]; omega, trivial, fun v hv => ?_⟩
  simp only [Bool.decide_eq_true] at hv ⊢
  refine ⟨fun h => bad fun k => h (hv.2 k.1), fun h => ?_⟩
  have k1 := hv.1 (Classical.not_not.1 h)
  refine ⟨⟨k1.1.1, k1.1.2.1, k1.1.2.2.1⟩, fun w hw => ⟨fun g => bad fun k => g (hw.2 ((follow_app hb 0).2 ⟨k1.2.2.2, k.2⟩)), fun g _ => ?_⟩⟩
  have k2 : postOk st d p q := ⟨k1, ((follow_app hb 0).1 (hw.1 (Classical.not_not.1 g))).2⟩
  have hl := hb.1
  exact ⟨fun hgt => ⟨⟨fun k => absurd k2 k, fun _ => ⟨fun _ => ⟨rfl, rfl, rfl, rfl⟩, fun k => by omega⟩⟩, trivial⟩, fun hle => ⟨⟨fun k => absurd k2 k, fun _ => ⟨fun k => by omega, fun _ => ⟨rfl, rfl, ⟨rfl, fun _ _ _ => rfl⟩, hb⟩⟩⟩, trivial⟩⟩

end Go.Sx.N
