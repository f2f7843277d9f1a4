/-
 Interest; months that are late; what is owed. Conditions: none.
-/
import Derived.Test.YtmhhcnaflklapaaGreatArrFf
import Derived.Test.YtmhhcnaflklapaaGreatLedF
import Derived.Test.YtmhhcnaflklapaaGreatArrTc
set_option linter.unusedVariables false
set_option linter.unusedSimpArgs false
namespace Go.Sx.N
theorem Interest_ok : V_Interest := by
 intro n _ due _ paid _ name two s rs known _ hp
 simp only [Bool.decide_eq_true]
 have bad : ¬ okI n due paid name two s -> q_Interest n due paid name two s known 0 2 /\ True := fun h => ⟨⟨fun _ => ⟨rfl, rfl⟩, fun k => absurd k h⟩, trivial⟩
 refine ⟨fun h => bad fun k => ?_, fun h1 => ⟨fun h => bad fun k => ?_, fun h2 => ⟨fun h => bad fun k => ?_, fun h3 => ⟨fun h => bad fun k => ?_, fun h4 => ⟨fun h => bad fun k => ?_, fun h5 => ⟨hp, fun v hv => ⟨fun h => bad fun k => h (hv.2 k.2.2.1), fun h6 => ⟨fun h => bad fun k => ?_, fun h7 => ⟨trivial, fun zn zl rzl zd zk rzk hz => ?_⟩⟩⟩⟩⟩⟩⟩⟩⟩
 ·have := k.1.1; omega
 ·have := k.1.2; omega
 ·have := k.2.1.1; omega
 ·have := k.2.1.2.1; omega
 ·have := k.2.1.2.2; omega
 ·have := k.2.2.2; rw [h] at this; cases this
 have hI : okI n due paid name two s := ⟨⟨by omega, by omega⟩, ⟨by omega, by omega, by omega⟩, hv.1 (Classical.not_not.1 h6), by simpa using h7⟩
 have zero : n = 0 \/ due = paid -> q_Interest n due paid name two s known 0 0 /\ True := fun h => ⟨⟨fun k => absurd hI k, fun _ => ⟨fun _ => ⟨rfl, rfl⟩, fun k1 k2 => by omega⟩⟩, trivial⟩
 refine ⟨fun h => zero (.inl h), fun h8 => ⟨fun h => zero (.inr h), fun h9 => ?_⟩⟩
 exact quick_ok hI.2.2 hp hI.2.1 ⟨⟨rfl, rfl, rfl, rfl, rfl⟩, years_nil, sums_first hz⟩ fun v e _ _ _ _ _ _ _ _ _ _ _ h => ⟨⟨fun k => absurd hI k, fun _ => ⟨fun k => by omega, fun _ _ => h⟩⟩, trivial⟩
theorem lit_app (l l' : List (List D)) : Sl.app (Sl.lit l) (Sl.lit l') = Sl.lit (l ++ l') := by
 unfold Sl.app Sl.lit
 congr 1
 ·simp
 ·funext i j
  by_cases h : i < l.length
  ·simp [h, List.getElem?_append_left h]
  ·have h : l.length <= i := by omega
   simp [Nat.not_lt.2 h, List.getElem?_append_right h]
theorem nil_lit : Sl.nil = Sl.lit [] := by
 unfold Sl.nil Sl.lit
 congr 1
theorem app_nil_left (d : Sl) : Sl.app (Sl.lit []) d = d := by
 cases d
 unfold Sl.app Sl.lit
 congr 1
 simp
theorem len_lit (l : List (List D)) : (Sl.lit l).len = (l.length : Int) := rfl
theorem SameI_refl (s : Sl) : SameI s s := ⟨rfl, fun _ _ _ => rfl⟩
theorem eqPosts_refl (s : Sl) : eqPosts s s := ⟨rfl, fun _ _ _ => ⟨rfl, rfl, rfl, rfl⟩⟩
section
variable {st : Int} {d p : Sl}
theorem posted_bd (hv : validS st d p) (mo : Int) : -4398046511104000 <= postedS p mo /\ postedS p mo <= 4398046511104000 := by
 have := L.postedS_bound hv mo; omega
theorem open_bd (hv : validS st d p) {k : Int} (h0 : 0 <= k) (h1 : k < d.len) : -4400000000000000 <= openS st d p (st + k) /\ openS st d p (st + k) <= 4400000000000000 := by
 have a := posted_bd hv (st + k)
 have b := hv.2.1 k h0 h1
 unfold openS
 rw [show st + k - st = k by omega]
 omega
def PB (st : Int) (d p : Sl) (j : Int) (s : Sl) : Prop := (0 <= j /\ j <= p.len) /\ s.len = d.len /\ ∀ k : Int, 0 <= k -> k < d.len -> s.int k 0 = d.int k 0 - sumTo (fun i => if p.int i 1 = st + k then prin p i else 0) j.toNat
def PC (st : Int) (d p s : Sl) : Prop := s.len = d.len /\ ∀ k : Int, 0 <= k -> k < d.len -> s.int k 0 = openS st d p (st + k)
theorem PB.init : PB st d p 0 (Sl.app (Sl.lit []) d) := by
 rw [app_nil_left]
 exact ⟨⟨Int.le_refl _, len0 p⟩, rfl, fun k k0 k1 => by show _ = d.int k 0 - 0; omega⟩
theorem PB.bd {j : Int} {s : Sl} (hv : validS st d p) (h : PB st d p j s) {k : Int} (k0 : 0 <= k) (k1 : k < d.len) : -4400000000000000 <= s.int k 0 /\ s.int k 0 <= 4400000000000000 := by
 obtain ⟨⟨j0, j1⟩, hl, hk⟩ := h
 have := L.sumTo_bound (f := fun i => if p.int i 1 = st + k then prin p i else 0) (n := j.toNat) (fun i h0 h1 => by
  have := L.prin_bound (hv.2.2.2 i h0 (by omega))
  show -1099511627776 <= (if p.int i 1 = st + k then prin p i else 0) /\ (if p.int i 1 = st + k then prin p i else 0) <= 1099511627776
  split <;> omega)
 have b := hv.2.1 k k0 k1
 have := hv.2.2.1
 rw [hk k k0 k1]
 omega
theorem PB.step {j : Int} {s : Sl} (hv : validS st d p) (h : PB st d p j s) (hj : j < p.len) :
    0 <= j /\ j < p.len /\ (Rng .i64 (p.int j 0) -> Rng .i64 (p.int j 1) -> Rng .u8 (p.int j 2) -> Rng .i64 (p.int j 3) ->
      ((p.int j 2 ≠ 3 -> Rng .i64 (p.int j 1 - st) /\ 0 <= p.int j 1 - st /\ p.int j 1 - st < s.len /\ (Rng .i64 (s.int (p.int j 1 - st) 0) -> Rng .i64 (s.int (p.int j 1 - st) 0 - p.int j 3) /\ 0 <= p.int j 1 - st /\ p.int j 1 - st < s.len /\ Rng .i64 (j + 1) /\
          (PB st d p (j + 1) (Sl.upd s (p.int j 1 - st) 0 [.int (s.int (p.int j 1 - st) 0 - p.int j 3)]) /\ (p.len - (j + 1)).toNat < (p.len - j).toNat))) /\
       (¬ p.int j 2 ≠ 3 -> Rng .i64 (j + 1) /\ (PB st d p (j + 1) s /\ (p.len - (j + 1)).toNat < (p.len - j).toNat)))) := by
  have h' := h
  obtain ⟨⟨j0, j1⟩, hl, hk⟩ := h
  have f := hv.2.2.2 j j0 hj
  have am := L.amt_bound f
  obtain ⟨⟨_, _, f1, f2⟩, _⟩ := f.1
  have := hv.2.2.1
  have hb := hv.1
  refine ⟨j0, hj, fun _ _ _ _ => ⟨fun h3 => ⟨by rw [rng64]; omega, by omega, by omega, fun _ => ?_⟩, fun h3 => ⟨by rw [rng64]; omega, ⟨⟨by omega, by omega⟩, hl, fun k k0 k1 => ?_⟩, by omega⟩⟩⟩
  · have b := h'.bd hv (k := p.int j 1 - st) (by omega) (by omega)
    refine ⟨by rw [rng64]; omega, by omega, by omega, by rw [rng64]; omega, ⟨⟨by omega, by omega⟩, hl, fun k k0 k1 => ?_⟩, by omega⟩
    rw [int_upd (by omega) k0, L.sumTo_succ _ j0]
    by_cases e : k = p.int j 1 - st
    · rw [if_pos e, <- e, hk k k0 k1, if_pos (by omega)]
      unfold prin
      rw [if_neg h3]; omega
    · rw [if_neg e, hk k k0 k1, if_neg (by omega)]; omega
  · rw [hk k k0 k1, L.sumTo_succ _ j0]
    unfold prin
    have h3 := Classical.not_not.1 h3
    rw [if_pos h3]
    split <;> omega
theorem PB.fin {j : Int} {s : Sl} (h : PB st d p j s) (hj : ¬ j < p.len) : PC st d p s := by
 obtain ⟨⟨j0, j1⟩, hl, hk⟩ := h
 refine ⟨hl, fun k k0 k1 => ?_⟩
 rw [hk k k0 k1]
 have : j.toNat = p.n := by unfold Sl.len at *; omega
 rw [this]
 unfold openS
 rw [show st + k - st = k by omega]
 rfl
theorem late_len (m : Int) : ∀ n : Nat, (lateS st d p m n).length <= n
 | 0 => Nat.le_refl _
 | n + 1 => by
  have ih := late_len m n
  simp only [lateS]
  split
  ·simp; omega
  ·omega
theorem late_not {m : Int} {k : Nat} (h : m <= st + k) {i : Nat} (hi : k <= i) : ¬ lateP st d p m i := fun g => by have := g.1; omega
theorem late_stop {m : Int} {k : Nat} (h : m <= st + k) : ∀ {n : Nat}, k <= n -> lateS st d p m n = lateS st d p m k /\ owedS st d p m n = owedS st d p m k
  | 0, hn => by have : k = 0 := by omega
                subst this; exact ⟨rfl, rfl⟩
  | n + 1, hn => by
    by_cases e : k = n + 1
    · subst e; exact ⟨rfl, rfl⟩
    · obtain ⟨r, l⟩ := late_stop h (n := n) (by omega)
      simp only [lateS, owedS]
      rw [if_neg (late_not h (by omega)), if_neg (late_not h (by omega))]
      exact ⟨r, l⟩
theorem late_at {m k x : Int} (k0 : 0 <= k) (hm : st + k < m) (hx : x = openS st d p (st + k)) (h0 : 0 < x) :
  Sl.lit (lateS st d p m (k + 1).toNat) = Sl.app (Sl.lit (lateS st d p m k.toNat)) (Sl.lit [[.int (st + k)]]) /\ owedS st d p m (k + 1).toNat = owedS st d p m k.toNat + x := by
 have e : (k + 1).toNat = k.toNat + 1 := by omega
 have e2 : ((k.toNat : Nat) : Int) = k := by omega
 have hp : lateP st d p m (k.toNat : Nat) := ⟨by omega, by rw [e2, <- hx]; exact h0⟩
 rw [e]
 simp only [lateS, owedS]
 rw [if_pos hp, if_pos hp, lit_app, e2, hx]
 exact ⟨rfl, rfl⟩
theorem late_no {m k x : Int} (k0 : 0 <= k) (hx : x = openS st d p (st + k)) (h0 : ¬ 0 < x) :
  lateS st d p m (k + 1).toNat = lateS st d p m k.toNat /\ owedS st d p m (k + 1).toNat = owedS st d p m k.toNat := by
 have e : (k + 1).toNat = k.toNat + 1 := by omega
 have e2 : ((k.toNat : Nat) : Int) = k := by omega
 have hp : ¬ lateP st d p m (k.toNat : Nat) := fun g => h0 (by rw [hx, <- e2]; exact g.2)
 rw [e]
 simp only [lateS, owedS]
 rw [if_neg hp, if_neg hp]
 exact ⟨rfl, rfl⟩
theorem owed_bd (hv : validS st d p) (m : Int) : ∀ n : Nat, (n : Int) <= d.len -> 0 <= owedS st d p m n /\ owedS st d p m n <= 4400000000000000 * n
 | 0, _ => by simp [owedS]
 | n + 1, h => by
  have ih := owed_bd hv m n (by omega)
  have b := open_bd hv (k := n) (by omega) (by omega)
  simp only [owedS]
  split
  ·rename_i g
   have := g.2
   omega
  ·omega
end
theorem Late_ok : V_Late := by
 intro st _ d p m _ _
 simp only [Bool.decide_eq_true]
 have r0 := len0 d
 refine ⟨trivial, fun v hv => ⟨fun h => ⟨⟨fun _ => ⟨rfl, rfl⟩, fun k => absurd (hv.2 k) h⟩, trivial⟩, fun h => ?_⟩⟩
 have hv := hv.1 (Classical.not_not.1 h)
 have hb := hv.1
 have fin : ∀ {k : Nat}, k <= d.n -> (m <= st + k \/ k = d.n) -> q_Late st d p m (Sl.lit (lateS st d p m k)) 0 /\ True := fun {k} hk h => ⟨⟨fun g => absurd hv g, fun _ => ⟨by
  have e : lateS st d p m d.n = lateS st d p m k := by
   rcases h with h | h
   ·exact (late_stop h hk).1
   ·rw [h]
  rw [e]; exact SameI_refl _, rfl⟩⟩, trivial⟩
 refine ⟨by show ((0 : Int) + d.len) * 8 <= _; omega, fun sp => ⟨PB st d p, fun j _ => (p.len - j).toNat, PB.init, fun j _ s hB => ⟨fun hj => hB.step hv hj, fun hj sm => ?_⟩⟩⟩
 obtain ⟨hl, hk⟩ := hB.fin hj
 rw [hl]
 refine ⟨fun i t => (0 <= i /\ i <= d.len) /\ t = Sl.lit (lateS st d p m i.toNat), fun i _ => (d.len - i).toNat, ⟨⟨Int.le_refl _, r0⟩, nil_lit⟩, fun i _ t ⟨⟨i0, i1⟩, ht⟩ => ⟨fun hi => ⟨i0, hi, fun _ => ⟨by rw [rng64]; omega, fun hge => ?_, fun hge => ?_⟩⟩, fun hi => ?_⟩⟩
 ·rw [ht]; exact fin (by unfold Sl.len at *; omega) (.inl (by omega))
 ·have hx := hk i i0 hi
  have ll := late_len (st := st) (d := d) (p := p) m i.toNat
  refine ⟨fun h0 => ?_, fun h0 => ⟨by rw [rng64]; omega, ⟨⟨by omega, by omega⟩, ?_⟩, by show (d.len - (i + 1)).toNat < (d.len - i).toNat; omega⟩⟩
  ·refine ⟨by rw [rng64]; omega, ?_, by rw [rng64]; omega, ⟨⟨by omega, by omega⟩, ?_⟩, by show (d.len - (i + 1)).toNat < (d.len - i).toNat; omega⟩
   ·rw [ht, len_lit, len_lit]
    simp only [List.length_cons, List.length_nil]
    omega
   ·rw [ht]; exact ((late_at i0 (by omega) hx h0).1).symm
  ·rw [ht, (late_no i0 hx h0).1]
 ·rw [ht]; exact fin (by unfold Sl.len at *; omega) (.inr (by unfold Sl.len at *; omega))
theorem Owed_ok : V_Owed := by
 intro st _ d p m _ _
 simp only [Bool.decide_eq_true]
 have r0 := len0 d
 refine ⟨trivial, fun v hv => ⟨fun h => ⟨⟨fun _ => ⟨rfl, rfl⟩, fun k => absurd (hv.2 k) h⟩, trivial⟩, fun h => ?_⟩⟩
 have hv := hv.1 (Classical.not_not.1 h)
 have hb := hv.1
 have fin : ∀ {k : Nat}, k <= d.n -> (m <= st + k \/ k = d.n) -> q_Owed st d p m (owedS st d p m k) 0 /\ True := fun {k} hk h => ⟨⟨fun g => absurd hv g, fun _ => ⟨by
  rcases h with h | h
  ·exact ((late_stop h hk).2).symm
  ·rw [h], rfl⟩⟩, trivial⟩
 refine ⟨by show ((0 : Int) + d.len) * 8 <= _; omega, fun sp => ⟨PB st d p, fun j _ => (p.len - j).toNat, PB.init, fun j _ s hB => ⟨fun hj => hB.step hv hj, fun hj sm => ?_⟩⟩⟩
 obtain ⟨hl, hk⟩ := hB.fin hj
 rw [hl]
 refine ⟨fun i t => (0 <= i /\ i <= d.len) /\ t = owedS st d p m i.toNat, fun i _ => (d.len - i).toNat, ⟨⟨Int.le_refl _, r0⟩, rfl⟩, fun i _ t rt ⟨⟨i0, i1⟩, ht⟩ => ⟨fun hi => ⟨i0, hi, fun _ => ⟨by rw [rng64]; omega, fun hge => ?_, fun hge => ?_⟩⟩, fun hi => ?_⟩⟩
 ·rw [ht]; exact fin (by unfold Sl.len at *; omega) (.inl (by omega))
 ·have hx := hk i i0 hi
  have ob := owed_bd hv m (i.toNat) (by omega)
  have xb := open_bd hv i0 hi
  refine ⟨fun h0 => ?_, fun h0 => ⟨by rw [rng64]; omega, ⟨⟨by omega, by omega⟩, ?_⟩, by show (d.len - (i + 1)).toNat < (d.len - i).toNat; omega⟩⟩
  ·have e := (late_at i0 (show st + i < m by omega) hx h0).2
   have oc := owed_bd hv m ((i + 1).toNat) (by omega)
   rw [e, <- ht] at oc
   refine ⟨by rw [rng64]; omega, by rw [rng64]; omega, by rw [rng64]; omega, ⟨⟨by omega, by omega⟩, ?_⟩, by show (d.len - (i + 1)).toNat < (d.len - i).toNat; omega⟩
   rw [e, ht]
  ·rw [ht, (late_no i0 hx h0).2]
 ·rw [ht]; exact fin (by unfold Sl.len at *; omega) (.inr (by unfold Sl.len at *; omega))
end Go.Sx.N
