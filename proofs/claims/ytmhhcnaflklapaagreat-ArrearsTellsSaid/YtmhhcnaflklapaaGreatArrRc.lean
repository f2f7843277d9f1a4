/-
 The reference's postings of what is owed, and its posting. Conditions: none.
-/
import Derived.Test.YtmhhcnaflklapaaGreatArrRb
set_option linter.unusedVariables false
set_option linter.unusedSimpArgs false
namespace Go.Sx.N
def monR (r : List D) : Int := (r.getD 0 (.int 0)).toI
noncomputable def oweStep (s : Sl) (known st : Int) (d p : Sl) (day m : Int) (a : OR) (r : List D) : OR := match a with
 | .err e => .err e
 | .ok l => oweAdd s known day m (monR r) (openS st d p (monR r)) l
section
variable {st : Int} {d p s : Sl} {known day m : Int}
theorem owe_fold : ∀ n : Nat, oweR s known st d p day m n = (lateS st d p m n).foldl (oweStep s known st d p day m) (.ok [])
 | 0 => rfl
 | n + 1 => by
  simp only [oweR, lateS]
  rw [owe_fold n]
  by_cases h : lateP st d p m n
  ·simp only [if_pos h, List.foldl_append]
   cases (lateS st d p m n).foldl (oweStep s known st d p day m) (.ok []) with
   | err e => rfl
   | ok l => rfl
  ·simp only [if_neg h]
   cases (lateS st d p m n).foldl (oweStep s known st d p day m) (.ok []) with
   | err e => rfl
   | ok l => rfl
theorem fold_err {e : Int} : ∀ l : List (List D), l.foldl (oweStep s known st d p day m) (.err e) = .err e
 | [] => rfl
 | r :: l => fold_err l
theorem fold_take {L : List (List D)} {e : Int} {i : Nat} (h : (L.take i).foldl (oweStep s known st d p day m) (.ok []) = .err e) : L.foldl (oweStep s known st d p day m) (.ok []) = .err e := by
 have : L.foldl (oweStep s known st d p day m) (.ok []) = (L.take i ++ L.drop i).foldl (oweStep s known st d p day m) (.ok []) := by rw [List.take_append_drop]
 rw [this, List.foldl_append, h]
 exact fold_err _
theorem fold_next {L : List (List D)} {l : List (List D)} {i : Nat} (hi : i < L.length) (h : (L.take i).foldl (oweStep s known st d p day m) (.ok []) = .ok l) : (L.take (i + 1)).foldl (oweStep s known st d p day m) (.ok []) = oweAdd s known day m (monR (L.getD i [])) (openS st d p (monR (L.getD i []))) l := by
 rw [List.take_add_one, List.foldl_append, h, List.getElem?_eq_getElem hi, List.getD_eq_getElem?_getD, List.getElem?_eq_getElem hi]
 rfl
theorem late_mem : ∀ {n : Nat} {r : List D}, r ∈ lateS st d p m n -> ∃ k : Nat, k < n /\ lateP st d p m k /\ r = [.int (st + k)]
 | n + 1, r, h => by
  simp only [lateS] at h
  split at h
  ·rename_i hl
   rcases List.mem_append.1 h with h | h
   ·obtain ⟨k, k1, k2⟩ := late_mem h
    exact ⟨k, by omega, k2⟩
   ·exact ⟨n, by omega, hl, List.mem_singleton.1 h⟩
  ·obtain ⟨k, k1, k2⟩ := late_mem h
   exact ⟨k, by omega, k2⟩
theorem intV_nn {n due paid : Int} : 0 <= (intV s known n due paid).1 := by
 unfold intV
 split
 ·exact Int.le_refl _
 ·split
  ·unfold amtV
   split
   ·exact Int.le_refl _
   ·split
    ·exact Int.le_refl _
    ·rename_i h _; show 0 <= roundQ _ 5; omega
  ·exact Int.le_refl _
theorem late_row (hv : validS st d p) {s' : Sl} (hs : SameI s' (Sl.lit (lateS st d p m d.n))) {i : Int} (i0 : 0 <= i) (i1 : i < s'.len) : i.toNat < (lateS st d p m d.n).length /\ monR ((lateS st d p m d.n).getD i.toNat []) = s'.int i 0 /\ ∃ k : Int, (0 <= k /\ k < d.len) /\ s'.int i 0 = st + k /\ st + k < m /\ 0 < openS st d p (st + k) := by
 have hl := hs.1
 rw [len_lit] at hl
 have hi : i.toNat < (lateS st d p m d.n).length := by omega
 have e : s'.int i 0 = monR ((lateS st d p m d.n).getD i.toNat []) := hs.2 i i0 i1
 refine ⟨hi, e.symm, ?_⟩
 have hm : (lateS st d p m d.n).getD i.toNat [] ∈ lateS st d p m d.n := by
  rw [List.getD_eq_getElem?_getD, List.getElem?_eq_getElem hi]
  exact List.getElem_mem hi
 obtain ⟨k, k1, k2, k3⟩ := late_mem hm
 refine ⟨k, ⟨by omega, by unfold Sl.len; omega⟩, ?_, k2.1, k2.2⟩
 rw [e, k3]
 rfl
end
theorem xOwe_ok : V_xOwe := by
 intro st _ d _ p _ day _ m _ name two s _ known _ hp
 simp only [Bool.decide_eq_true]
 have d0 := len0 d
 have bad : ¬ okO st d p day m name two s -> q_xOwe st d p day m name two s known Sl.nil 2 /\ True := fun h => ⟨⟨fun _ => ⟨rfl, rfl⟩, fun k => absurd k h⟩, trivial⟩
 refine ⟨trivial, fun v hv => ⟨fun h => bad fun k => h (hv.2 k.1.1), fun h1 => ⟨hp, fun w hw => ⟨fun h => bad fun k => h (hw.2 k.1.2.1), fun h2 => ⟨fun h => bad fun k => ?_, fun h3 => ⟨fun h => bad fun k => ?_, fun h4 => ⟨fun h => bad fun k => ?_, fun h5 => ⟨fun h => bad fun k => ?_, fun h6 => ⟨fun h => bad fun k => ?_, fun h7 => ?_⟩⟩⟩⟩⟩⟩⟩⟩⟩
 ·have := k.1.2.2; rw [h] at this; cases this
 ·have := k.2.1.1; omega
 ·have := k.2.1.2; omega
 ·have := k.2.2.1; omega
 ·have := k.2.2.2; omega
 have hv := hv.1 (Classical.not_not.1 h1)
 have hT : validT name two s /\ two = false := ⟨hw.1 (Classical.not_not.1 h2), by simpa using h3⟩
 have hO : okO st d p day m name two s := ⟨⟨hv, hT⟩, ⟨by omega, by omega⟩, by omega, by omega⟩
 have hb := hv.1
 refine ⟨hv, fun t _ ht => ?_⟩
 have ht : SameI t (Sl.lit (lateS st d p m d.n)) := ht
 have tl : t.len <= d.len := by
  have := late_len (st := st) (d := d) (p := p) m d.n
  rw [ht.1, len_lit]
  unfold Sl.len; omega
 have t0 := len0 t
 have fin : ∀ {r : Sl} {e : Int}, resO ((lateS st d p m d.n).foldl (oweStep s known st d p day m) (.ok [])) r e -> q_xOwe st d p day m name two s known r e /\ True := fun h => ⟨⟨fun g => absurd hO g, fun _ => by rw [owe_fold]; exact h⟩, trivial⟩
 refine ⟨fun o i => (0 <= i /\ i <= t.len) /\ ∃ l, ((lateS st d p m d.n).take i.toNat).foldl (oweStep s known st d p day m) (.ok []) = .ok l /\ o = Sl.lit l /\ (l.length : Int) <= 2 * i, fun _ i => (t.len - i).toNat, ⟨⟨Int.le_refl _, t0⟩, [], rfl, nil_lit, by simp⟩, ?_⟩
 intro o _ i _ ⟨⟨i0, i1⟩, l, hl, ho, hn⟩ _
 refine ⟨fun hi => ⟨i0, hi, fun _ => ?_⟩, fun hi => ?_⟩
 ·obtain ⟨hi', hmon, k, ⟨k0, k1⟩, hk, hkm, hko⟩ := late_row hv ht i0 hi
  have hnx := fold_next (s := s) (known := known) (day := day) (st := st) (d := d) (p := p) (m := m) hi' hl
  rw [hmon] at hnx
  have fail : ∀ {e : Int}, ((lateS st d p m d.n).take (i.toNat + 1)).foldl (oweStep s known st d p day m) (.ok []) = .err e -> q_xOwe st d p day m name two s known Sl.nil e /\ True := fun h => fin (by rw [fold_take h]; exact ⟨rfl, rfl⟩)
  have ob := open_bd hv k0 k1
  rw [hk] at hnx
  rw [hk]
  refine ⟨⟨hv, by omega, by omega⟩, fun x _ hx => ?_⟩
  have hx : x = openS st d p (st + k) := hx
  rw [<- hx] at hnx hko
  refine ⟨fun hbig => fail (by rw [hnx]; exact if_pos hbig), fun hbig => ⟨i0, hi, fun _ => ⟨hp, fun v _ e _ hq => ?_⟩⟩⟩
  have hnx : ((lateS st d p m d.n).take (i.toNat + 1)).foldl (oweStep s known st d p day m) (.ok []) = if (intV s known x (st + k) m).2 ≠ 0 then .err (intV s known x (st + k) m).2 else .ok (l ++ oweRow day (st + k) x (intV s known x (st + k) m).1) := by
   rw [hnx]; exact if_neg hbig
  have hr := (hq.2 ⟨⟨by omega, by omega⟩, ⟨by omega, by omega, by omega⟩, hT⟩).2 (by omega) (by omega)
  obtain ⟨hv1, he1⟩ := res_val hr
  have v0 : 0 <= v := by rw [hv1]; exact intV_nn
  refine ⟨fun he => fail (by rw [hnx, if_pos (by rw [<- he1]; exact he), he1]), fun he => ?_⟩
  rw [if_neg (by rw [<- he1]; exact he), <- hv1] at hnx
  have l1 : ∀ a b c f : Int, (Sl.lit [[D.int a, D.int b, D.int c, D.int f]]).len = 1 := fun _ _ _ _ => rfl
  have ll : (Sl.lit l).len = (l.length : Int) := rfl
  have e1 : (i + 1).toNat = i.toNat + 1 := by omega
  rw [ho, lit_app]
  refine ⟨i0, hi, fun _ => ⟨by rw [ll, l1]; omega, fun hv0 => ?_, fun hv0 => ?_⟩⟩
  ·rw [lit_app]
   refine ⟨i0, hi, fun _ => ⟨?_, by rw [rng64]; omega, ⟨⟨by omega, by omega⟩, _, by rw [e1]; exact hnx, ?_, ?_⟩, by show (t.len - (i + 1)).toNat < (t.len - i).toNat; omega⟩⟩
   ·rw [l1, len_lit, List.length_append]; simp only [List.length_cons, List.length_nil]; omega
   ·unfold oweRow; rw [if_neg (by omega), List.append_assoc]; rfl
   ·unfold oweRow; rw [if_neg (by omega), List.length_append]; simp only [List.length_cons, List.length_nil]; omega
  ·refine ⟨by rw [rng64]; omega, ⟨⟨by omega, by omega⟩, _, by rw [e1]; exact hnx, ?_, ?_⟩, by show (t.len - (i + 1)).toNat < (t.len - i).toNat; omega⟩
   ·unfold oweRow; rw [if_pos (by omega)]
   ·unfold oweRow; rw [if_pos (by omega), List.length_append]; simp only [List.length_cons, List.length_nil]; omega
 ·refine fin ?_
  have : ((lateS st d p m d.n).take i.toNat) = lateS st d p m d.n := List.take_of_length_le (by have := ht.1; rw [len_lit] at this; omega)
  rw [this] at hl
  rw [hl, ho]
  exact ⟨eqPosts_refl _, rfl⟩
theorem behind_appR (a b : Sl) : behind a b (Sl.app a b) := by
 refine ⟨len_app a b, fun i i0 i1 => ?_, fun i i0 i1 => ?_⟩
 ·have e := fun j => int_app_lt (a := a) (b := b) (j := j) i0 i1
  exact ⟨e 0, e 1, e 2, e 3⟩
 ·have e := fun j => int_app_ge (a := a) (b := b) (i := a.len + i) (j := j) (by omega)
  rw [show a.len + i - a.len = i by omega] at e
  exact ⟨e 0, e 1, e 2, e 3⟩
theorem follow_appR {st n : Int} {p q r : Sl} (hr : behind p q r) (d0 : Int) : followS st n r d0 ↔ followS st n p d0 /\ followS st n q (if 0 < p.len then p.int (p.len - 1) 0 else d0) := by
 obtain ⟨hl, ha, hb⟩ := hr
 have p0 := len0 p
 have q0 := len0 q
 have fa : ∀ i : Int, 0 <= i -> i < p.len -> (okAt st n r d0 i ↔ okAt st n p d0 i) := fun i i0 i1 => by
  obtain ⟨a0, a1, a2, a3⟩ := ha i i0 i1
  have pv : prev r d0 i = prev p d0 i := by
   unfold prev
   split
   ·rfl
   ·exact (ha (i - 1) (by omega) (by omega)).1
  unfold okAt fitAt
  rw [a0, a1, a2, a3, pv]
 have fb : ∀ i : Int, 0 <= i -> i < q.len -> (okAt st n r d0 (p.len + i) ↔ okAt st n q (if 0 < p.len then p.int (p.len - 1) 0 else d0) i) := fun i i0 i1 => by
  obtain ⟨a0, a1, a2, a3⟩ := hb i i0 i1
  have pv : prev r d0 (p.len + i) = prev q (if 0 < p.len then p.int (p.len - 1) 0 else d0) i := by
   unfold prev
   by_cases e : i = 0
   ·subst e
    rw [if_pos rfl, Int.add_zero]
    by_cases ep : 0 < p.len
    ·rw [if_neg (by omega), if_pos ep]
     exact (ha (p.len - 1) (by omega) (by omega)).1
    ·rw [if_pos (by omega), if_neg ep]
   ·rw [if_neg (by omega), if_neg e, show p.len + i - 1 = p.len + (i - 1) by omega]
    exact (hb (i - 1) (by omega) (by omega)).1
  unfold okAt fitAt
  rw [a0, a1, a2, a3, pv]
 constructor
 ·intro h
  exact ⟨fun i i0 i1 => (fa i i0 i1).1 (h i i0 (by omega)), fun i i0 i1 => (fb i i0 i1).1 (h (p.len + i) (by omega) (by omega))⟩
 ·intro ⟨h1, h2⟩ i i0 i1
  by_cases c : i < p.len
  ·exact (fa i i0 c).2 (h1 i i0 c)
  ·have := (fb (i - p.len) (by omega) (by omega)).2 (h2 (i - p.len) (by omega) (by omega))
   rwa [show p.len + (i - p.len) = i by omega] at this
theorem xPost_ok : V_xPost := by
 intro st _ d p q ⟨hp, hq⟩
 simp only [Bool.decide_eq_true, app_nil_left]
 have p0 := len0 p
 have q0 := len0 q
 have e0 : (Sl.lit []).len = 0 := rfl
 have bad : ¬ postOk st d p q -> q_xPost st d p q 0 Sl.nil Sl.nil 2 /\ True := fun h => ⟨⟨fun _ => ⟨rfl, rfl, rfl, rfl⟩, fun g => absurd g h⟩, trivial⟩
 refine ⟨by omega, by omega, trivial, fun v hv => ⟨fun hn => bad fun h => hn (hv.2 h.1), fun hy => ?_⟩⟩
 have hv := hv.1 (Classical.not_not.1 hy)
 have hf := follow_appR (st := st) (n := d.len) (behind_appR p q) 0
 refine ⟨⟨hv.1.1, hv.1.2.1, hv.1.2.2.1⟩, fun w hw => ⟨fun hn => bad fun h => hn (hw.2 (hf.2 ⟨hv.2.2.2, h.2⟩)), fun hy' _ => ?_⟩⟩
 have hok : postOk st d p q := ⟨hv, (hf.1 (hw.1 (Classical.not_not.1 hy'))).2⟩
 rw [len_app]
 exact ⟨fun hl => ⟨⟨fun k => absurd hok k, fun _ => ⟨fun _ => ⟨rfl, rfl, rfl, rfl⟩, fun k => by omega⟩⟩, trivial⟩, fun hl => ⟨⟨fun k => absurd hok k, fun _ => ⟨fun k => by omega, fun _ => ⟨rfl, rfl, ⟨rfl, fun _ _ _ => rfl⟩, behind_appR p q⟩⟩⟩, trivial⟩⟩
end Go.Sx.N
