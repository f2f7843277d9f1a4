/-
  The condition of RecoverOldest. Conditions: none.
-/
import Derived.Test.YtljmbenpkbjmmaaGreatNumVOldest
import Derived.Test.YtljmbenpkbjmmaaGreatRecM
set_option linter.unusedVariables false
set_option linter.unusedSimpArgs false
namespace Go.Sx.N

section
variable {st : Int} {d p : Sl} {day m lim : Int}

/-- The rows are those of later and later months. -/
theorem rows_inc : ∀ {n i j : Nat}, i < j → j < (rowsS st d p day m lim n).length → ∃ k l : Nat, k < l ∧ l < n ∧ (rowsS st d p day m lim n)[i]? = some [.int day, .int (st + k), .int 4, .int (-(usedS st d p m lim k))] ∧ (rowsS st d p day m lim n)[j]? = some [.int day, .int (st + l), .int 4, .int (-(usedS st d p m lim l))]
  | 0, i, j, _, h => by simp [rowsS] at h
  | n + 1, i, j, hij, h => by
    simp only [rowsS] at h ⊢
    by_cases hu : 0 < usedS st d p m lim n
    · rw [if_pos hu] at h ⊢
      by_cases e : j < (rowsS st d p day m lim n).length
      · obtain ⟨k, l, k0, k1, k2, k3⟩ := rows_inc hij e
        exact ⟨k, l, k0, by omega, by rw [List.getElem?_append_left (by omega)]; exact k2, by rw [List.getElem?_append_left e]; exact k3⟩
      · have : j = (rowsS st d p day m lim n).length := by simp at h; omega
        subst this
        obtain ⟨k, k0, k1, k2⟩ := rows_at (st := st) (d := d) (p := p) (day := day) (m := m) (lim := lim) (n := n) hij
        exact ⟨k, n, k0, by omega, by rw [List.getElem?_append_left hij]; exact k2, by simp⟩
    · rw [if_neg hu] at h ⊢
      obtain ⟨k, l, k0, k1, k2, k3⟩ := rows_inc hij h
      exact ⟨k, l, k0, by omega, k2, k3⟩

theorem rows_has {k : Nat} (hu : 0 < usedS st d p m lim k) : ∀ {n : Nat}, k < n → ∃ i : Nat, i < (rowsS st d p day m lim n).length ∧ (rowsS st d p day m lim n)[i]? = some [.int day, .int (st + k), .int 4, .int (-(usedS st d p m lim k))]
  | 0, h => absurd h (Nat.not_lt_zero _)
  | n + 1, h => by
    simp only [rowsS]
    by_cases hn : k = n
    · subst hn
      rw [if_pos hu]
      exact ⟨(rowsS st d p day m lim k).length, by simp, by simp⟩
    · obtain ⟨i, h1, h2⟩ := rows_has hu (n := n) (by omega)
      by_cases hu2 : 0 < usedS st d p m lim n
      · rw [if_pos hu2]
        exact ⟨i, by simp; omega, by rw [List.getElem?_append_left h1]; exact h2⟩
      · rw [if_neg hu2]
        exact ⟨i, h1, h2⟩

theorem row_int {rs : List (List D)} {i : Int} {k : Nat} {x : Int} (i0 : 0 ≤ i) (h : rs[i.toNat]? = some [.int day, .int (st + k), .int 4, .int x]) : (Sl.lit rs).int i 1 = st + k ∧ (Sl.lit rs).int i 3 = x := by
  have at_ : ∀ j : Nat, (Sl.lit rs).int i j = (([D.int day, .int (st + k), .int 4, .int x]).getD j (.int 0)).toI := fun j => by
    show (((rs.getD i.toNat []).getD j (.int 0))).toI = _
    have e : rs.getD i.toNat [] = [D.int day, .int (st + k), .int 4, .int x] := by rw [List.getD_eq_getElem?_getD, h]; rfl
    rw [e]
  exact ⟨at_ 1, at_ 3⟩

theorem post_inc {s : Sl} (h : eqPosts s (Sl.lit (rowsS st d p day m lim d.n))) {i j : Int} (i0 : 0 ≤ i) (hij : i < j) (hj : j < s.len) : s.int i 1 < s.int j 1 := by
  have l := h.1
  rw [len_lit] at l
  obtain ⟨k, q, k0, _, k2, k3⟩ := rows_inc (st := st) (d := d) (p := p) (day := day) (m := m) (lim := lim) (n := d.n) (i := i.toNat) (j := j.toNat) (by omega) (by omega)
  obtain ⟨_, a1, _, _⟩ := h.2 i i0 (by omega)
  obtain ⟨_, b1, _, _⟩ := h.2 j (by omega) hj
  rw [a1, b1, (row_int i0 k2).1, (row_int (by omega) k3).1]
  omega

theorem post_has {s : Sl} (h : eqPosts s (Sl.lit (rowsS st d p day m lim d.n))) {k : Nat} (hk : (k : Int) < d.len) (hu : 0 < usedS st d p m lim k) : ∃ i : Int, 0 ≤ i ∧ i < s.len ∧ s.int i 1 = st + k ∧ s.int i 3 = -(usedS st d p m lim k) := by
  obtain ⟨i, h1, h2⟩ := rows_has (st := st) (d := d) (p := p) (day := day) (m := m) (lim := lim) hu (n := d.n) (by unfold Sl.len at hk; omega)
  have l := h.1
  rw [len_lit] at l
  obtain ⟨_, a1, _, a3⟩ := h.2 (i : Int) (by omega) (by omega)
  have r := row_int (i := (i : Int)) (by omega) (show (rowsS st d p day m lim d.n)[((i : Nat) : Int).toNat]? = _ from h2)
  exact ⟨i, by omega, by omega, by rw [a1, r.1], by rw [a3, r.2]⟩

theorem left_down (hv : validS st d p) (hl : 0 ≤ lim) {n : Nat} (hn : (n : Int) < d.len) : leftS st d p m lim (n + 1) ≤ leftS st d p m lim n := by
  have b := left_bd hv hl (m := m) (n := n) (by omega)
  have u := use_bd hv (m := m) (l := leftS st d p m lim n) (k := n) (by omega) hn b.1
  show leftS st d p m lim n - useS st d p m (leftS st d p m lim n) n ≤ _
  omega

theorem left_mono (hv : validS st d p) (hl : 0 ≤ lim) {a : Nat} : ∀ {n : Nat}, a ≤ n → (n : Int) ≤ d.len → leftS st d p m lim n ≤ leftS st d p m lim a
  | 0, h, _ => by have : a = 0 := by omega
                  subst this; exact Int.le_refl _
  | n + 1, h, hn => by
    by_cases e : a = n + 1
    · subst e; exact Int.le_refl _
    · have h1 := left_mono hv hl (a := a) (n := n) (by omega) (by omega)
      have h2 := left_down (m := m) hv hl (n := n) (by omega)
      omega

/-- Where something is taken, everything was taken before. -/
theorem oldest (hv : validS st d p) (hl : 0 ≤ lim) {k j : Nat} (hk : (k : Int) < d.len) (hu : 0 < usedS st d p m lim k) (hj : j < k) (hjm : st + (j : Int) < m) : usedS st d p m lim j = posi (ov st d p j) := by
  have bk := left_bd hv hl (m := m) (n := k) (by omega)
  have bj := left_bd hv hl (m := m) (n := j) (by omega)
  have uk := use_bd hv (m := m) (l := leftS st d p m lim k) (k := k) (by omega) hk bk.1
  have lk : 0 < leftS st d p m lim k := by unfold usedS at hu; omega
  have mo := left_mono (m := m) hv hl (a := j + 1) (n := k) (by omega) (by omega)
  have e : leftS st d p m lim (j + 1) = leftS st d p m lim j - usedS st d p m lim j := rfl
  have ud : usedS st d p m lim j = imin (posi (ov st d p j)) (leftS st d p m lim j) := by
    unfold usedS useS
    rw [if_pos hjm]
  unfold imin at ud
  split at ud
  · omega
  · exact ud
end

/-- What a map of amounts holds. -/
def gv (s : Sl) (k : Int) : Int := Sl.int (Sl.mget s k [.int 0]) 0 0
theorem gv_nil (k : Int) : gv Sl.nil k = 0 := rfl
theorem gv_set (s : Sl) (k k' x : Int) : gv (Sl.mset s k [.int x]) k' = if k' = k then x else gv s k' := by
  unfold gv
  rw [mget_mset]
  by_cases e : k' = k
  · rw [if_pos e, if_pos e]; rfl
  · rw [if_neg e, if_neg e]

theorem Oldest_ok : V_Oldest := by
  intro st _ d _ p _ day _ m _ n rn k rk _
  rw [rngu8] at rn rk
  simp only [Bool.decide_eq_true]
  have aw : p_awake ∧ ∀ b : Bool, q_awake b → q_Oldest st d p day m n k b ∧ True := ⟨trivial, fun b hb => ⟨hb, trivial⟩⟩
  have tm : Int.tmod n (k + 2) = n % (k + 2) := Int.tmod_eq_emod_of_nonneg rn.1
  have nb : 0 ≤ n % (k + 2) ∧ n % (k + 2) ≤ k + 1 := by
    have := Int.emod_nonneg n (show k + 2 ≠ 0 by omega)
    have := Int.emod_lt_of_pos n (show 0 < k + 2 by omega)
    omega
  rw [tm]
  refine ⟨trivial, fun b4 _ => ⟨fun _ => aw, fun _ => ⟨by rw [rng64]; omega, by omega, by rw [rng64]; omega, by rw [rng64]; omega, trivial, fun a s _ c f _ hq => ⟨trivial, fun t _ e _ ht => ?_⟩⟩⟩⟩
  have hq : q_kFrac (n % (k + 2)) (k + 1) a s c f := hq
  have hk : 1 ≤ k + 1 ∧ k + 1 ≤ 65536 := by omega
  have d0 := len0 d
  have t0 := len0 t
  rcases take_cases st d p day m with ⟨E, hE, hall⟩ | ⟨hv, hm, hday, hall⟩
  · have g := hall _ _ a c s f t e hq hk nb ht
    exact ⟨fun _ _ => ⟨fun _ => aw, fun h => absurd g.2 h⟩, fun h => absurd (Classical.not_not.1 h) (by rw [g.1]; exact hE)⟩
  have g0 := hall _ _ a c s f t e hq hk nb ht
  have ts := g0.2
  refine ⟨fun h => absurd g0.1 h, fun _ _ => ?_⟩
  have hb := hv.1
  have lb := part_limit (st := st) (d := d) (p := p) (m := m) hq hk nb hv hm
  obtain ⟨lim, hlim⟩ : ∃ lim, lim = (Rat.divInt (n % (k + 2)) (k + 1) * ((d.int (m - st) 0 : Int) : Rat)).floor := ⟨_, rfl⟩
  rw [← hlim] at ts lb
  have tl : t.len ≤ 1200 := by
    have := ts.1
    rw [len_lit] at this
    have := rows_len (st := st) (d := d) (p := p) (day := day) (m := m) (lim := lim) d.n
    unfold Sl.len at *; omega
  refine ⟨fun i s => (0 ≤ i ∧ i ≤ t.len) ∧ (∀ j : Int, 0 ≤ j → j < i → gv s (t.int j 1) = -(t.int j 3)) ∧ ∀ x : Int, (∀ j : Int, 0 ≤ j → j < i → t.int j 1 ≠ x) → gv s x = 0, fun i _ => (t.len - i).toNat, ⟨⟨Int.le_refl _, t0⟩, fun j _ _ => by omega, fun x _ => gv_nil x⟩, fun i _ mp hJ => ?_⟩
  obtain ⟨⟨i0, i1⟩, hJ1, hJ2⟩ := hJ
  refine ⟨fun hi => ⟨i0, hi, fun _ _ _ _ => ?_⟩, fun hi _ => ?_⟩
  · obtain ⟨q, hq1, hu, r0, r1, r2, r3⟩ := post_at ts i0 hi
    have ub := used_bd hv (m := m) lb.2.1 hq1
    have pb := posi_bd hv (k := (q : Int)) (by omega) hq1
    have ob := hv.1
    have fin : V_Oldest_0 t (fun i s => (0 ≤ i ∧ i ≤ t.len) ∧ (∀ j : Int, 0 ≤ j → j < i → gv s (t.int j 1) = -(t.int j 3)) ∧ ∀ x : Int, (∀ j : Int, 0 ≤ j → j < i → t.int j 1 ≠ x) → gv s x = 0) (fun i _ => (t.len - i).toNat) i mp := by
      have zb : 0 - t.int i 3 = -(t.int i 3) := by omega
      refine ⟨by rw [rng64]; omega, by rw [rng64]; omega, ⟨⟨by omega, by omega⟩, fun j j0 j1 => ?_, fun x hx => ?_⟩, by show (t.len - (i + 1)).toNat < (t.len - i).toNat; omega⟩
      · rw [gv_set]
        by_cases ej : j = i
        · subst ej; rw [if_pos rfl, zb]
        · have := post_inc ts j0 (show j < i by omega) hi
          rw [if_neg (by omega)]
          exact hJ1 j j0 (by omega)
      · rw [gv_set, if_neg (fun h => hx i i0 (by omega) h.symm)]
        exact hJ2 x fun j j0 j1 => hx j j0 (by omega)
    refine ⟨fun h => by omega, fun _ => ⟨fun h => absurd r2 h, fun _ => ⟨fun h => absurd r0 h, fun _ => ⟨fun h => ⟨by rw [rng64]; omega, by omega, by omega, fun _ => ⟨fun h2 => ?_, fun _ => fin⟩⟩, fun _ => fin⟩⟩⟩⟩
    have := post_inc ts (show 0 ≤ i - 1 by omega) (show i - 1 < i by omega) hi
    omega
  · have ie : i = t.len := by omega
    subst ie
    have gvk : ∀ q : Nat, (q : Int) < d.len → gv mp (st + q) = usedS st d p m lim q := fun q hq1 => by
      have ub := used_bd hv (m := m) lb.2.1 hq1
      by_cases hu : 0 < usedS st d p m lim q
      · obtain ⟨j, j0, j1, j2, j3⟩ := post_has ts hq1 hu
        have := hJ1 j j0 j1
        rw [j2, j3] at this
        omega
      · have := hJ2 (st + q) fun j j0 j1 => by
          obtain ⟨l, l0, l1, _, l3, _⟩ := post_at ts j0 j1
          rw [l3]
          intro h
          have : l = q := by omega
          subst this
          exact hu l1
        omega
    have body : ∀ q : Int, 0 ≤ q → q < d.len → gv mp (st + q) = usedS st d p m lim q.toNat := fun q q0 q1 => by
      have := gvk q.toNat (by omega)
      rw [show st + ((q.toNat : Nat) : Int) = st + q by omega] at this
      exact this
    refine ⟨fun w q => (0 ≤ q ∧ q ≤ d.len) ∧ (w = true ↔ ∀ j : Nat, (j : Int) < q → st + (j : Int) < m → 0 < ov st d p j → usedS st d p m lim j = ov st d p j), fun _ q => (d.len - q).toNat, ⟨⟨Int.le_refl _, d0⟩, ⟨fun _ j hj => by omega, fun _ => rfl⟩⟩, fun w q _ hJ => ?_⟩
    obtain ⟨⟨q0, q1⟩, hw⟩ := hJ
    refine ⟨fun hlt => ⟨by rw [rng64]; omega, trivial, fun o _ e1 _ ho => ?_⟩, fun _ => aw⟩
    have ho := (ho.2 hv).2 (show hasS st d (st + q) from ⟨by omega, by omega⟩)
    rw [show st + q - st = q by omega] at ho
    have oo : o = - ov st d p q := by unfold ov; omega
    have obd := ov_bd hv q0 hlt
    have ge := body q q0 hlt
    have qn : ((q.toNat : Nat) : Int) = q := by omega
    have hqt : ((q.toNat : Nat) : Int) < d.len := by omega
    have ub := used_bd hv (m := m) lb.2.1 hqt
    have step : ∀ (w' : Bool), ((w' = true) ↔ (w = true ∧ (st + q < m → 0 < ov st d p q → usedS st d p m lim q.toNat = ov st d p q))) →
        Rng .i64 (q + 1) ∧ ((0 ≤ q + 1 ∧ q + 1 ≤ d.len) ∧ (w' = true ↔ ∀ j : Nat, (j : Int) < q + 1 → st + (j : Int) < m → 0 < ov st d p j → usedS st d p m lim j = ov st d p j)) ∧ (d.len - (q + 1)).toNat < (d.len - q).toNat := fun w' hw' => by
      refine ⟨by rw [rng64]; omega, ⟨⟨by omega, by omega⟩, ?_⟩, by omega⟩
      rw [hw', hw]
      constructor
      · rintro ⟨h1, h2⟩ j hj hjm hjo
        by_cases ej : (j : Int) = q
        · have : j = q.toNat := by omega
          subst this
          rw [qn] at hjm hjo
          rw [qn]
          exact h2 hjm hjo
        · exact h1 j (by omega) hjm hjo
      · intro h1
        refine ⟨fun j hj => h1 j (by omega), fun h2 h3 => ?_⟩
        have := h1 q.toNat (by omega) (by rw [qn]; exact h2) (by rw [qn]; exact h3)
        rw [qn] at this
        exact this
    have fin : V_Oldest_1 st m mp (fun w q => (0 ≤ q ∧ q ≤ d.len) ∧ (w = true ↔ ∀ j : Nat, (j : Int) < q → st + (j : Int) < m → 0 < ov st d p j → usedS st d p m lim j = ov st d p j)) (fun _ q => (d.len - q).toNat) w q o := by
      unfold V_Oldest_1
      simp only [Bool.decide_eq_true]
      refine ⟨fun hm1 => ⟨fun ho1 => ⟨fun hw1 _ => ?_, fun hw1 => ?_⟩, fun ho1 => ?_⟩, fun hm1 => ?_⟩
      · have ovp : 0 < ov st d p q := by omega
        refine ⟨by rw [rng64]; omega, step (decide (gv mp (st + q) = 0 - o)) ?_⟩
        rw [decide_eq_true_iff, ge]
        constructor
        · intro h; exact ⟨hw1, fun _ _ => by omega⟩
        · intro h; have := h.2 hm1 ovp; omega
      · exact step false ⟨fun h => absurd h Bool.false_ne_true, fun h => absurd h.1 hw1⟩
      · exact step w ⟨fun h => ⟨h, fun _ h2 => by omega⟩, fun h => h.1⟩
      · exact step w ⟨fun h => ⟨h, fun h2 => absurd h2 hm1⟩, fun h => h.1⟩
    refine ⟨fun h => absurd ho.2 h, fun _ _ => ⟨fun hg => ?_, fun _ => fin⟩⟩
    have hg : 0 < gv mp (st + q) := hg
    have hu : 0 < usedS st d p m lim q.toNat := by omega
    have um := ub
    refine ⟨fun hw0 => ?_, fun _ => ⟨fun h => ?_, fun _ => ⟨fun h => ?_, fun _ => fin⟩⟩⟩
    · exact absurd (hw.2 fun j hj hjm hjo => by
        have := oldest hv lb.2.1 hqt hu (j := j) (by omega) hjm
        rw [this]; unfold posi; rw [if_pos hjo]) hw0
    · have := posi_pos (x := ov st d p ((q.toNat : Nat) : Int)) (by omega)
      rw [qn] at this
      omega
    · have := ub.2.2.2 (by omega)
      omega

end Go.Sx.N
