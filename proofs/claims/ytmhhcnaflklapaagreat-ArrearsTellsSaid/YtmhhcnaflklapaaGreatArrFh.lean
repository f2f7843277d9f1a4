/-
 What is owed, with interest; settling; the statements' helpers. Conditions: none.
-/
import Derived.Test.YtmhhcnaflklapaaGreatArrFg
set_option linter.unusedVariables false
set_option linter.unusedSimpArgs false
namespace Go.Sx.N
theorem amt_val {q : Rat} {v e : Int} (h : amtS q v e) : v = (amtV q).1 /\ e = (amtV q).2 := by
 obtain ⟨h1, h2, h3⟩ := h
 unfold amtV
 split
 ·rename_i k; exact h1 k
 ·rename_i k
  split
  ·rename_i k2; exact h2 k2
  ·rename_i k2; exact h3 (by omega) (by omega)
theorem res_val {s : Sl} {known n due paid v e : Int} (h : resI (sumS s known due (paid - due).toNat) n v e) : v = (intV s known n due paid).1 /\ e = (intV s known n due paid).2 := by
 unfold intV
 cases hs : sumS s known due (paid - due).toNat with
 | err x => rw [hs] at h; exact h
 | ok q =>
  rw [hs] at h
  have h : partI q n v e := h
  by_cases f : fitQ (q * (n : Rat)) /\ fitQ (q * (n : Rat) / 12)
  ·simp only [if_pos f]
   exact amt_val (h.2 f.1 f.2)
  ·simp only [if_neg f]
   exact h.1 f
section
variable {st : Int} {d p s : Sl} {known day m : Int}
theorem owe_err {e : Int} {k : Nat} (h : oweR s known st d p day m k = .err e) : ∀ {n : Nat}, k <= n -> oweR s known st d p day m n = .err e
  | 0, hn => by have : k = 0 := by omega
                subst this; exact h
  | n + 1, hn => by
    by_cases e1 : k = n + 1
    · subst e1; exact h
    · simp only [oweR]
      rw [owe_err h (n := n) (by omega)]
theorem owe_stop {k : Nat} (h : m <= st + k) : ∀ {n : Nat}, k <= n -> oweR s known st d p day m n = oweR s known st d p day m k
  | 0, hn => by have : k = 0 := by omega
                subst this; rfl
  | n + 1, hn => by
    by_cases e1 : k = n + 1
    · subst e1; rfl
    · simp only [oweR]
      rw [owe_stop h (n := n) (by omega)]
      cases oweR s known st d p day m k with
      | err e => rfl
      | ok l => exact if_neg (late_not h (by omega))
theorem owe_no {k x : Int} {l : List (List D)} (k0 : 0 <= k) (hx : x = openS st d p (st + k)) (h0 : ¬ 0 < x) (h : oweR s known st d p day m k.toNat = .ok l) : oweR s known st d p day m (k + 1).toNat = .ok l := by
 have e2 : ((k.toNat : Nat) : Int) = k := by omega
 have hp : ¬ lateP st d p m (k.toNat : Nat) := fun g => h0 (by rw [hx, <- e2]; exact g.2)
 rw [show (k + 1).toNat = k.toNat + 1 by omega]
 simp only [oweR]
 rw [h]
 exact if_neg hp
theorem owe_at {k x : Int} {l : List (List D)} (k0 : 0 <= k) (hm : st + k < m) (hx : x = openS st d p (st + k)) (h0 : 0 < x) (h : oweR s known st d p day m k.toNat = .ok l) : oweR s known st d p day m (k + 1).toNat = oweAdd s known day m (st + k) x l := by
 have e2 : ((k.toNat : Nat) : Int) = k := by omega
 have hp : lateP st d p m (k.toNat : Nat) := ⟨by omega, by rw [e2, <- hx]; exact h0⟩
 rw [show (k + 1).toNat = k.toNat + 1 by omega]
 simp only [oweR]
 rw [h]
 show (if lateP st d p m (k.toNat : Nat) then _ else _) = _
 rw [if_pos hp, e2, <- hx]
end
theorem Owe_ok : V_Owe := by
 intro st _ d rd p rp day _ m _ name two s rs known _ hp
 simp only [Bool.decide_eq_true]
 have d0 := len0 d
 have bad : ¬ okO st d p day m name two s -> q_Owe st d p day m name two s known Sl.nil 2 /\ True := fun h => ⟨⟨fun _ => ⟨rfl, rfl⟩, fun k => absurd k h⟩, trivial⟩
 refine ⟨trivial, fun v hv => ⟨fun h => bad fun k => h (hv.2 k.1.1), fun h1 => ⟨hp, fun w hw => ⟨fun h => bad fun k => h (hw.2 k.1.2.1), fun h2 => ⟨fun h => bad fun k => ?_, fun h3 => ⟨fun h => bad fun k => ?_, fun h4 => ⟨fun h => bad fun k => ?_, fun h5 => ⟨fun h => bad fun k => ?_, fun h6 => ⟨fun h => bad fun k => ?_, fun h7 => ⟨trivial, fun zn zl rzl zd zk rzk hz => ?_⟩⟩⟩⟩⟩⟩⟩⟩⟩⟩
 ·have := k.1.2.2; rw [h] at this; cases this
 ·have := k.2.1.1; omega
 ·have := k.2.1.2; omega
 ·have := k.2.2.1; omega
 ·have := k.2.2.2; omega
 have hv := hv.1 (Classical.not_not.1 h1)
 have hT : validT name two s /\ two = false := ⟨hw.1 (Classical.not_not.1 h2), by simpa using h3⟩
 have hO : okO st d p day m name two s := ⟨⟨hv, hT⟩, ⟨by omega, by omega⟩, by omega, by omega⟩
 have hb := hv.1
 have fin : ∀ {r : Sl} {e : Int}, resO (oweR s known st d p day m d.n) r e -> q_Owe st d p day m name two s known r e /\ True := fun h => ⟨⟨fun g => absurd hO g, fun _ => h⟩, trivial⟩
 have done : ∀ {k : Nat} {l : List (List D)}, k <= d.n -> (m <= st + k \/ k = d.n) -> oweR s known st d p day m k = .ok l -> q_Owe st d p day m name two s known (Sl.lit l) 0 /\ True := fun {k l} hk h hl => fin (by
  have e : oweR s known st d p day m d.n = .ok l := by
   rcases h with h | h
   ·rw [owe_stop h hk]; exact hl
   ·rw [<- h]; exact hl
  rw [e]; exact ⟨eqPosts_refl _, rfl⟩)
 have fail : ∀ {k : Nat} {e : Int}, k <= d.n -> oweR s known st d p day m k = .err e -> q_Owe st d p day m name two s known Sl.nil e /\ True := fun {k e} hk hl => fin (by
  rw [owe_err hl hk]; exact ⟨rfl, rfl⟩)
 refine ⟨by show ((0 : Int) + d.len) * 8 <= _; omega, fun sp => ⟨PB st d p, fun j _ => (p.len - j).toNat, PB.init, fun j _ o ro hB => ⟨fun hj => hB.step hv hj, fun hj sm => ?_⟩⟩⟩
 obtain ⟨hl, hk⟩ := hB.fin hj
 rw [hl]
 refine ⟨fun i _ _ nm tw rows kn pd yrs sums lst q => (0 <= i /\ i <= d.len) /\ St name two s known m nm tw rows kn pd yrs sums lst /\ ∃ l, oweR s known st d p day m i.toNat = .ok l /\ q = Sl.lit l /\ (l.length : Int) <= 2 * i, fun i _ _ _ _ _ _ _ _ _ _ _ => (d.len - i).toNat,
  ⟨⟨Int.le_refl _, d0⟩, ⟨⟨rfl, rfl, rfl, rfl, rfl⟩, years_nil, sums_first hz⟩, [], rfl, nil_lit, by simp⟩, ?_⟩
 intro i _ r1 rr1 r2 _ nm tw rows rr kn _ pd _ yrs sums lst rl q rq ⟨⟨i0, i1⟩, hS, l, hl', hq, hn⟩
 refine ⟨fun hi => ⟨i0, hi, fun _ => ⟨by rw [rng64]; omega, fun hge => ?_, fun hge => ⟨fun h0 => ⟨by rw [rng64]; omega, fun hbig => ?_, fun hbig => ?_⟩, fun h0 => ?_⟩⟩⟩, fun hi => ?_⟩
 ·rw [hq]; exact done (by unfold Sl.len at *; omega) (.inl (by omega)) hl'
 ·have e := owe_at (s := s) (known := known) (day := day) i0 (show st + i < m by omega) (hk i i0 hi) h0 hl'
  exact fail (k := (i + 1).toNat) (by unfold Sl.len at *; omega) (by rw [e]; exact if_pos hbig)
 ·have e := owe_at (s := s) (known := known) (day := day) i0 (show st + i < m by omega) (hk i i0 hi) h0 hl'
  have e : oweR s known st d p day m (i + 1).toNat = if (intV s known (o.int i 0) (st + i) m).2 ≠ 0 then .err (intV s known (o.int i 0) (st + i) m).2 else .ok (l ++ oweRow day (st + i) (o.int i 0) (intV s known (o.int i 0) (st + i) m).1) := by
   rw [e]; exact if_neg hbig
  have hpd : pd = m := hS.1.2.2.2.2
  refine ⟨fun v e nm tw rows kn pd yrs sums lst => St name two s known m nm tw rows kn pd yrs sums lst /\ v = (intV s known (o.int i 0) (st + i) m).1 /\ e = (intV s known (o.int i 0) (st + i) m).2, ⟨fun h => by omega, fun _ => ⟨fun h => by omega, fun _ => ?_⟩⟩, ?_⟩
  ·have hS' := hS
   obtain ⟨⟨rfl, rfl, rfl, rfl, rfl⟩, hy, hsm⟩ := hS'
   exact quick_ok hT hp ⟨by omega, by omega, by omega⟩ hS fun v e nm tw rows kn pd yrs sums lst _ _ hS hr => ⟨hS, res_val hr⟩
  ·intro v rv e' re' nm tw rows rr kn _ pd _ yrs sums lst rl ⟨hS, hv1, he1⟩
   have ll : (Sl.lit l).len = (l.length : Int) := rfl
   have l1 : ∀ a b c f : Int, (Sl.lit [[D.int a, D.int b, D.int c, D.int f]]).len = 1 := fun _ _ _ _ => rfl
   refine ⟨fun he => fail (k := (i + 1).toNat) (by unfold Sl.len at *; omega) (by rw [e, if_pos (by rw [<- he1]; exact he), he1]), fun he => ?_⟩
   rw [if_neg (by rw [<- he1]; exact he), <- hv1] at e
   rw [hq, lit_app]
   refine ⟨by rw [ll, l1]; omega, fun hv0 => ?_, fun hv0 => ?_⟩
   ·rw [lit_app]
    refine ⟨?_, by rw [rng64]; omega, ⟨⟨by omega, by omega⟩, hS, _, e, ?_, ?_⟩, by show (d.len - (i + 1)).toNat < (d.len - i).toNat; omega⟩
    ·rw [l1, len_lit, List.length_append]; simp only [List.length_cons, List.length_nil]; omega
    ·unfold oweRow; rw [if_neg hv0, List.append_assoc]; rfl
    ·unfold oweRow; rw [if_neg hv0, List.length_append]; simp only [List.length_cons, List.length_nil]; omega
   ·refine ⟨by rw [rng64]; omega, ⟨⟨by omega, by omega⟩, hS, _, e, ?_, ?_⟩, by show (d.len - (i + 1)).toNat < (d.len - i).toNat; omega⟩
    ·unfold oweRow; rw [if_pos (Classical.not_not.1 hv0)]
    ·unfold oweRow; rw [if_pos (Classical.not_not.1 hv0), List.length_append]; simp only [List.length_cons, List.length_nil]; omega
 ·exact ⟨by rw [rng64]; omega, ⟨⟨by omega, by omega⟩, hS, l, owe_no i0 (hk i i0 hi) h0 hl', hq, by omega⟩, by show (d.len - (i + 1)).toNat < (d.len - i).toNat; omega⟩
 ·rw [hq]; exact done (by unfold Sl.len at *; omega) (.inr (by unfold Sl.len at *; omega)) hl'
end Go.Sx.N
