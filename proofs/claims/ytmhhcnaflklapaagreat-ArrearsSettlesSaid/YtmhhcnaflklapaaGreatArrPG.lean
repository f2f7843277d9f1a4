/-
  The law ArrearsSettles: its condition. Conditions: none.
-/
import Derived.Test.YtmhhcnaflklapaaGreatNumVSettles
import Derived.Test.YtmhhcnaflklapaaGreatArrFk
set_option linter.unusedVariables false
set_option linter.unusedSimpArgs false
namespace Go.Sx.N

/-! One list behind another -/
theorem sumTo_congrS {f g : Int → Int} : ∀ {n : Nat}, (∀ i : Int, 0 ≤ i → i < n → f i = g i) → sumTo f n = sumTo g n
  | 0, _ => rfl
  | n + 1, h => by
    simp only [sumTo]
    rw [sumTo_congrS (n := n) (fun i i0 i1 => h i i0 (by omega)), h n (by omega) (by omega)]
theorem eq_prin {p q : Sl} {i k : Int} (h : eqAt p i q k) : prin p i = prin q k := by unfold prin; rw [h.2.2.1, h.2.2.2]
theorem posted_behindS {p q r : Sl} (h : behind p q r) (mo : Int) : postedS r mo = postedS p mo + postedS q mo := by
  obtain ⟨hl, ha, hb⟩ := h
  have hn : r.n = p.n + q.n := by unfold Sl.len at hl; omega
  unfold postedS
  rw [hn]
  have e : ∀ b : Nat, b ≤ q.n → sumTo (fun i => if r.int i 1 = mo then prin r i else 0) (p.n + b) = sumTo (fun i => if p.int i 1 = mo then prin p i else 0) p.n + sumTo (fun i => if q.int i 1 = mo then prin q i else 0) b := fun b hb' => by
    induction b with
    | zero =>
      show sumTo _ p.n = _ + 0
      rw [Int.add_zero]
      exact sumTo_congrS fun i i0 i1 => by rw [(ha i i0 i1).2.1, eq_prin (ha i i0 i1)]
    | succ b ih =>
      show sumTo _ (p.n + b) + _ = _
      simp only [sumTo]
      rw [ih (by omega)]
      have g := hb b (by omega) (by unfold Sl.len; omega)
      have e1 : ((p.n.add b : Nat) : Int) = p.len + b := by show ((p.n + b : Nat) : Int) = _; unfold Sl.len; omega
      rw [e1, g.2.1, eq_prin g]
      omega
  exact e q.n (Nat.le_refl _)
theorem total_behindS {p q r : Sl} (h : behind p q r) (k : Int) : totalS r k = totalS p k + totalS q k := by
  obtain ⟨hl, ha, hb⟩ := h
  have hn : r.n = p.n + q.n := by unfold Sl.len at hl; omega
  unfold totalS
  rw [hn]
  have e : ∀ b : Nat, b ≤ q.n → sumTo (fun i => if r.int i 2 = k then r.int i 3 else 0) (p.n + b) = sumTo (fun i => if p.int i 2 = k then p.int i 3 else 0) p.n + sumTo (fun i => if q.int i 2 = k then q.int i 3 else 0) b := fun b hb' => by
    induction b with
    | zero =>
      show sumTo _ p.n = _ + 0
      rw [Int.add_zero]
      exact sumTo_congrS fun i i0 i1 => by rw [(ha i i0 i1).2.2.1, (ha i i0 i1).2.2.2]
    | succ b ih =>
      show sumTo _ (p.n + b) + _ = _
      simp only [sumTo]
      rw [ih (by omega)]
      have g := hb b (by omega) (by unfold Sl.len; omega)
      have e1 : ((p.n.add b : Nat) : Int) = p.len + b := by show ((p.n + b : Nat) : Int) = _; unfold Sl.len; omega
      rw [e1, g.2.2.1, g.2.2.2]
      omega
  exact e q.n (Nat.le_refl _)
theorem behind_app (a b : Sl) : behind a b (Sl.app a b) := by
  refine ⟨len_app a b, fun i i0 i1 => ?_, fun i i0 i1 => ?_⟩
  · have e := fun j => int_app_lt (a := a) (b := b) (j := j) i0 i1
    exact ⟨e 0, e 1, e 2, e 3⟩
  · have e := fun j => int_app_ge (a := a) (b := b) (i := a.len + i) (j := j) (by omega)
    rw [show a.len + i - a.len = i by omega] at e
    exact ⟨e 0, e 1, e 2, e 3⟩
theorem posted_eqS {p q : Sl} (h : eqPosts p q) (mo : Int) : postedS p mo = postedS q mo := by
  have hn : p.n = q.n := by have := h.1; unfold Sl.len at this; omega
  unfold postedS
  rw [← hn]
  exact sumTo_congrS fun i i0 i1 => by rw [(h.2 i i0 i1).2.1, eq_prin (h.2 i i0 i1)]
theorem total_eqS {p q : Sl} (h : eqPosts p q) (k : Int) : totalS p k = totalS q k := by
  have hn : p.n = q.n := by have := h.1; unfold Sl.len at this; omega
  unfold totalS
  rw [← hn]
  exact sumTo_congrS fun i i0 i1 => by rw [(h.2 i i0 i1).2.2.1, (h.2 i i0 i1).2.2.2]
theorem follow_appS {st n : Int} {p q r : Sl} (hr : behind p q r) (d0 : Int) : followS st n r d0 ↔ followS st n p d0 ∧ followS st n q (if 0 < p.len then p.int (p.len - 1) 0 else d0) := by
  obtain ⟨hl, ha, hb⟩ := hr
  have p0 := len0 p
  have q0 := len0 q
  have fa : ∀ i : Int, 0 ≤ i → i < p.len → (okAt st n r d0 i ↔ okAt st n p d0 i) := fun i i0 i1 => by
    obtain ⟨a0, a1, a2, a3⟩ := ha i i0 i1
    have pv : prev r d0 i = prev p d0 i := by
      unfold prev
      split
      · rfl
      · exact (ha (i - 1) (by omega) (by omega)).1
    unfold okAt fitAt
    rw [a0, a1, a2, a3, pv]
  have fb : ∀ i : Int, 0 ≤ i → i < q.len → (okAt st n r d0 (p.len + i) ↔ okAt st n q (if 0 < p.len then p.int (p.len - 1) 0 else d0) i) := fun i i0 i1 => by
    obtain ⟨a0, a1, a2, a3⟩ := hb i i0 i1
    have pv : prev r d0 (p.len + i) = prev q (if 0 < p.len then p.int (p.len - 1) 0 else d0) i := by
      unfold prev
      by_cases e : i = 0
      · subst e
        rw [if_pos rfl, Int.add_zero]
        by_cases ep : 0 < p.len
        · rw [if_neg (by omega), if_pos ep]
          exact (ha (p.len - 1) (by omega) (by omega)).1
        · rw [if_pos (by omega), if_neg ep]
      · rw [if_neg (by omega), if_neg e, show p.len + i - 1 = p.len + (i - 1) by omega]
        exact (hb (i - 1) (by omega) (by omega)).1
    unfold okAt fitAt
    rw [a0, a1, a2, a3, pv]
  constructor
  · intro h
    exact ⟨fun i i0 i1 => (fa i i0 i1).1 (h i i0 (by omega)), fun i i0 i1 => (fb i i0 i1).1 (h (p.len + i) (by omega) (by omega))⟩
  · rintro ⟨h1, h2⟩ i i0 i1
    by_cases e : i < p.len
    · exact (fa i i0 e).2 (h1 i i0 e)
    · have := (fb (i - p.len) (by omega) (by omega)).2 (h2 (i - p.len) (by omega) (by omega))
      rwa [show p.len + (i - p.len) = i by omega] at this

/-! What is posted -/
theorem row_posted (day m n x mo : Int) : postedS (Sl.lit (oweRow day m n x)) mo = if m = mo then n else 0 := by
  unfold oweRow
  by_cases h : x = 0
  · rw [if_pos h]
    show (0 : Int) + (if m = mo then (if (2 : Int) = 3 then 0 else n) else 0) = _
    rw [if_neg (show ¬ (2 : Int) = 3 by decide), Int.zero_add]
  · rw [if_neg h]
    show (0 : Int) + (if m = mo then (if (2 : Int) = 3 then 0 else n) else 0) + (if m = mo then (if (3 : Int) = 3 then 0 else x) else 0) = _
    rw [if_neg (show ¬ (2 : Int) = 3 by decide), if_pos (show (3 : Int) = 3 from rfl)]
    split <;> omega
theorem row_total (day m n x : Int) : totalS (Sl.lit (oweRow day m n x)) 2 = n := by
  unfold oweRow
  by_cases h : x = 0
  · rw [if_pos h]
    show (0 : Int) + (if (2 : Int) = 2 then n else 0) = _
    rw [if_pos rfl, Int.zero_add]
  · rw [if_neg h]
    show (0 : Int) + (if (2 : Int) = 2 then n else 0) + (if (3 : Int) = 2 then x else 0) = _
    rw [if_pos rfl, if_neg (by decide)]; omega

section
variable {st : Int} {d p s : Sl} {known day m : Int}
theorem owe_step {n : Nat} {l : List (List D)} (h : oweR s known st d p day m (n + 1) = .ok l) : ∃ l0, oweR s known st d p day m n = .ok l0 ∧ ((¬ lateP st d p m n ∧ l = l0) ∨ (lateP st d p m n ∧ ∃ x, l = l0 ++ oweRow day (st + n) (openS st d p (st + n)) x)) := by
  simp only [oweR] at h
  cases hn : oweR s known st d p day m n with
  | err e => rw [hn] at h; cases h
  | ok l0 =>
    rw [hn] at h
    have h : (if lateP st d p m n then oweAdd s known day m (st + n) (openS st d p (st + n)) l0 else .ok l0) = .ok l := h
    refine ⟨l0, rfl, ?_⟩
    split at h
    · rename_i hp
      unfold oweAdd at h
      split at h
      · cases h
      · split at h
        · cases h
        · cases h; exact .inr ⟨hp, _, rfl⟩
    · rename_i hp
      cases h; exact .inl ⟨hp, rfl⟩
theorem owe_posted (mo : Int) : ∀ {n : Nat} {l : List (List D)}, oweR s known st d p day m n = .ok l → postedS (Sl.lit l) mo = if st ≤ mo ∧ mo < st + n ∧ lateP st d p m (mo - st) then openS st d p mo else 0
  | 0, l, h => by
    simp only [oweR, OR.ok.injEq] at h
    subst h
    rw [if_neg (by omega)]; rfl
  | n + 1, l, h => by
    obtain ⟨l0, h0, h1⟩ := owe_step h
    have ih := owe_posted mo h0
    rcases h1 with ⟨hp, rfl⟩ | ⟨hp, x, rfl⟩
    · rw [ih]
      by_cases e : mo = st + n
      · subst e
        rw [if_neg (by omega), if_neg (fun k => hp (by have := k.2.2; rwa [show st + (n : Int) - st = n by omega] at this))]
      · by_cases c : st ≤ mo ∧ mo < st + n ∧ lateP st d p m (mo - st)
        · rw [if_pos c, if_pos ⟨c.1, by omega, c.2.2⟩]
        · rw [if_neg c, if_neg (fun k => c ⟨k.1, by omega, k.2.2⟩)]
    · rw [← lit_app, posted_behindS (behind_app _ _), ih, row_posted]
      by_cases e : mo = st + n
      · subst e
        rw [if_neg (by omega), if_pos rfl, if_pos ⟨by omega, by omega, by rw [show st + (n : Int) - st = n by omega]; exact hp⟩]; omega
      · rw [if_neg (show ¬ st + (n : Int) = mo by omega)]
        by_cases c : st ≤ mo ∧ mo < st + n ∧ lateP st d p m (mo - st)
        · rw [if_pos c, if_pos ⟨c.1, by omega, c.2.2⟩]; omega
        · rw [if_neg c, if_neg (fun k => c ⟨k.1, by omega, k.2.2⟩)]; rfl
theorem owe_total : ∀ {n : Nat} {l : List (List D)}, oweR s known st d p day m n = .ok l → totalS (Sl.lit l) 2 = owedS st d p m n
  | 0, l, h => by
    simp only [oweR, OR.ok.injEq] at h
    subst h; rfl
  | n + 1, l, h => by
    obtain ⟨l0, h0, h1⟩ := owe_step h
    have ih := owe_total h0
    simp only [owedS]
    rcases h1 with ⟨hp, rfl⟩ | ⟨hp, x, rfl⟩
    · rw [if_neg hp, ih]
    · rw [if_pos hp, ← lit_app, total_behindS (behind_app _ _), ih, row_total]

/-- What is open behind the settlement. -/
theorem settled {r d' p' : Sl} {l : List (List D)} (hv : validS st d p) (hr : oweR s known st d p day m d.n = .ok l) (he : eqPosts r (Sl.lit l)) (hd : eqDue d' d) (hb : behind p r p') {k : Int} (k0 : 0 ≤ k) (k1 : k < d.len) :
    openS st d' p' (st + k) = if lateP st d p m k then 0 else openS st d p (st + k) := by
  unfold openS
  rw [posted_behindS hb, posted_eqS he, owe_posted (st + k) hr, show st + k - st = k by omega, hd.2 k k0 (by rw [hd.1]; exact k1)]
  by_cases c : lateP st d p m k
  · rw [if_pos c, if_pos ⟨by omega, by unfold Sl.len at k1; omega, c⟩]
    unfold openS
    rw [show st + k - st = k by omega]; omega
  · rw [if_neg c, if_neg (fun g => c g.2.2)]; omega
theorem behind_validS {r d' p' : Sl} (h : postOk st d p r) (hl : p.len + r.len ≤ 4000) (hd : eqDue d' d) (hb : behind p r p') : validS st d' p' := by
  obtain ⟨⟨h1, h2, h3, h4⟩, h5⟩ := h
  refine ⟨by rw [hd.1]; exact h1, fun i i0 i1 => by rw [hd.2 i i0 i1]; exact h2 i i0 (by rw [← hd.1]; exact i1), by rw [hb.1]; exact hl, ?_⟩
  rw [hd.1]
  exact (follow_appS hb 0).2 ⟨h4, h5⟩
theorem late_none {n : Nat} (h : ∀ k : Nat, k < n → ¬ lateP st d p m k) : lateS st d p m n = [] := by
  induction n with
  | zero => rfl
  | succ n ih =>
    simp only [lateS]
    rw [if_neg (h n (by omega)), ih (fun k hk => h k (by omega))]
/-- The months that are late: which they are. -/
theorem late_mem : ∀ {n : Nat} (mo : Int), (∃ j : Int, 0 ≤ j ∧ j < (lateS st d p m n).length ∧ (Sl.lit (lateS st d p m n)).int j 0 = mo) ↔ (st ≤ mo ∧ mo < st + n ∧ lateP st d p m (mo - st))
  | 0, mo => by
    constructor
    · rintro ⟨j, j0, j1, _⟩
      have j1 : j < ((0 : Nat) : Int) := j1
      omega
    · rintro ⟨a, b, _⟩; omega
  | n + 1, mo => by
    have ih := late_mem (n := n) mo
    simp only [lateS]
    by_cases hp : lateP st d p m n
    · rw [if_pos hp]
      constructor
      · rintro ⟨j, j0, j1, e⟩
        rw [List.length_append] at j1
        have j1 : j < ((lateS st d p m n).length : Int) + 1 := by simpa using j1
        by_cases c : j < (lateS st d p m n).length
        · rw [← lit_app, int_app_lt j0 (show j < (Sl.lit (lateS st d p m n)).len by rw [len_lit]; exact c)] at e
          have := ih.1 ⟨j, j0, c, e⟩
          exact ⟨this.1, by omega, this.2.2⟩
        · rw [← lit_app, int_app_ge (by rw [len_lit]; omega), len_lit, show j - (lateS st d p m n).length = 0 by omega] at e
          have e : st + (n : Int) = mo := e
          subst e
          exact ⟨by omega, by omega, by rw [show st + (n : Int) - st = n by omega]; exact hp⟩
      · rintro ⟨a, b, c⟩
        by_cases e : mo = st + n
        · refine ⟨(lateS st d p m n).length, by omega, by rw [List.length_append]; simp; omega, ?_⟩
          rw [← lit_app, int_app_ge (by rw [len_lit]; omega), len_lit, Int.sub_self]
          exact e.symm
        · obtain ⟨j, j0, j1, ej⟩ := ih.2 ⟨a, by omega, c⟩
          refine ⟨j, j0, by rw [List.length_append]; omega, ?_⟩
          rw [← lit_app, int_app_lt j0 (show j < (Sl.lit (lateS st d p m n)).len by rw [len_lit]; exact j1)]
          exact ej
    · rw [if_neg hp]
      refine ih.trans ⟨fun k => ⟨k.1, by omega, k.2.2⟩, fun k => ⟨k.1, ?_, k.2.2⟩⟩
      by_cases e : mo = st + n
      · subst e
        exact absurd (by have := k.2.2; rwa [show st + (n : Int) - st = n by omega] at this) hp
      · omega
end

/-! Counting -/
def zi : List D := [.int 0]
def cnt (t : Sl) (i : Int) (g : Sl) : Prop := ∀ mo : Int, (0 ≤ Sl.int (Sl.mget g mo zi) 0 0 ∧ Sl.int (Sl.mget g mo zi) 0 0 ≤ i) ∧ (0 < Sl.int (Sl.mget g mo zi) 0 0 ↔ ∃ j : Int, 0 ≤ j ∧ j < i ∧ t.int j 0 = mo)
theorem cnt_nil (t : Sl) : cnt t 0 Sl.nil := fun mo => by
  have e : Sl.int (Sl.mget Sl.nil mo zi) 0 0 = 0 := by rw [mget_nil]; rfl
  rw [e]
  exact ⟨⟨by omega, by omega⟩, fun k => by omega, fun ⟨j, j0, j1, _⟩ => by omega⟩
theorem cnt_step {t g : Sl} {i : Int} (i0 : 0 ≤ i) (h : cnt t i g) : cnt t (i + 1) (Sl.mset g (t.int i 0) [.int (Sl.int (Sl.mget g (t.int i 0) zi) 0 0 + 1)]) := fun mo => by
  rw [mget_mset]
  by_cases e : mo = t.int i 0
  · rw [if_pos e]
    have h1 := h (t.int i 0)
    have e2 : Sl.int (⟨1, fun _ j => [D.int (Sl.int (Sl.mget g (t.int i 0) zi) 0 0 + 1)].getD j (.int 0)⟩ : Sl) 0 0 = Sl.int (Sl.mget g (t.int i 0) zi) 0 0 + 1 := rfl
    rw [e2]
    exact ⟨⟨by omega, by omega⟩, fun _ => ⟨i, i0, by omega, e.symm⟩, fun _ => by omega⟩
  · rw [if_neg e]
    have h1 := h mo
    refine ⟨⟨by omega, by omega⟩, h1.2.trans ⟨fun ⟨j, j0, j1, ej⟩ => ⟨j, j0, by omega, ej⟩, fun ⟨j, j0, j1, ej⟩ => ⟨j, j0, ?_, ej⟩⟩⟩
    by_cases c : j = i
    · subst c; exact absurd ej.symm e
    · omega

theorem Settles_core {st : Int} {d p : Sl} {day m : Int} {t : Sl} {name : ByteArray} {two : Bool} {s : Sl} (hf : (d.len ≤ 20 ∧ p.len ≤ 40)) (rm : Rng .i64 m) (h : q_rates t name two s) : V_Settles_1 st d p day m t name two s := by
  unfold V_Settles_1
  simp only [Bool.decide_eq_true]
  have aw : ∀ b : Bool, q_aAwake b → q_Settles st d p day m t b ∧ True := fun b hb => ⟨hb, trivial⟩
  refine ⟨rates_name h, fun st' _ d' rd' p' rp' e _ hq => ⟨fun he => ⟨trivial, fun b hb => ⟨fun _ => ⟨trivial, aw⟩, fun hb1 => ?_⟩⟩, fun he => ?_⟩⟩
  · obtain ⟨r, e0, ho, h1, h2⟩ := hq
    refine absurd (hb.2 ?_) hb1
    have z : zeroS st' d' p' := by
      by_cases c : e0 = 0
      · have h2 := h2 c
        by_cases c1 : postOk st d p r
        · have := h2.2 c1
          by_cases c2 : 4000 < p.len + r.len
          · exact (this.1 c2).2
          · exact absurd (this.2 (by omega)).1 he
        · exact (h2.1 c1).2
      · exact (h1 c).1
    exact ⟨z.1, ⟨z.2.1, fun i i0 i1 => by rw [z.2.1] at i1; omega⟩, z.2.2, fun i i0 i1 => by rw [z.2.2] at i1; omega⟩
  · have he := Classical.not_not.1 he
    obtain ⟨r, e0, ho, h1, h2⟩ := hq
    have c0 : e0 = 0 := Classical.byContradiction fun k => k ((h1 k).2.symm.trans he)
    have h2 := h2 c0
    have hP : postOk st d p r := Classical.byContradiction fun k => by have := (h2.1 k).1; omega
    have h2 := h2.2 hP
    have hl : p.len + r.len ≤ 4000 := Classical.byContradiction fun k => by have := (h2.1 (by omega)).1; omega
    obtain ⟨_, rfl, hd, hb⟩ := h2.2 hl
    have hv := hP.1
    have hbs := hv.1
    have d0 := len0 d
    have hO : okO st' d p day m name two s := Classical.byContradiction fun k => by have := (ho.1 k).2; omega
    have ho := ho.2 hO
    obtain ⟨l, hr, hel⟩ : ∃ l, oweR s 0 st' d p day m d.n = .ok l ∧ eqPosts r (Sl.lit l) := by
      cases hx : oweR s 0 st' d p day m d.n with
      | err x => rw [hx] at ho; exact absurd hx (by
          have e1 : x = 0 := ho.2.symm.trans c0
          subst e1
          intro hx
          have key : ∀ n : Nat, oweR s 0 st' d p day m n ≠ .err 0 := fun n => by
            induction n with
            | zero => intro k; cases k
            | succ n ih =>
              intro k
              simp only [oweR] at k
              cases hn : oweR s 0 st' d p day m n with
              | err e => rw [hn] at k; cases k; exact ih hn
              | ok l0 =>
                rw [hn] at k
                have k : (if lateP st' d p m n then oweAdd s 0 day m (st' + n) (openS st' d p (st' + n)) l0 else .ok l0) = .err 0 := k
                split at k
                · unfold oweAdd at k
                  split at k
                  · cases k
                  · split at k
                    · rename_i hne
                      injection k with k
                      exact hne k
                    · cases k
                · cases k
          exact key d.n hx)
      | ok l => rw [hx] at ho; exact ⟨l, rfl, ho.1⟩
    have hv' : validS st' d' p' := behind_validS hP hl hd hb
    have op := fun {k : Int} (k0 : 0 ≤ k) (k1 : k < d.len) => settled (k := k) hv hr hel hd hb k0 k1
    have dn : d'.n = d.n := by have := hd.1; unfold Sl.len at this; omega
    refine ⟨trivial, fun ow _ e1 _ ho1 => ⟨trivial, fun late _ e2 _ hla => ⟨trivial, fun none _ e3 _ hno => ⟨trivial, fun ta _ e4 _ hta => ⟨trivial, fun tb _ e5 _ htb => ?_⟩⟩⟩⟩⟩
    obtain ⟨rfl, rfl⟩ := ho1.2 hv
    obtain ⟨sla, rfl⟩ := hla.2 hv
    obtain ⟨sno, rfl⟩ := hno.2 hv'
    obtain ⟨rfl, rfl⟩ := hta.2 hv (by decide) (by decide)
    obtain ⟨rfl, rfl⟩ := htb.2 hv' (by decide) (by decide)
    have en : lateS st' d' p' m d'.n = [] := late_none fun k hk g => by
      have g2 := g.2
      rw [op (k := k) (by omega) (by unfold Sl.len; omega)] at g2
      split at g2
      · omega
      · rename_i c; exact c ⟨g.1, g2⟩
    have nl : none.len = 0 := by rw [sno.1, en]; rfl
    have tt : totalS p' 2 - totalS p 2 = owedS st' d p m d.n := by
      rw [total_behindS hb, total_eqS hel, owe_total hr]; omega
    have ob := owed_bd hv m d.n (by unfold Sl.len; omega)
    have ll := late_len (st := st') (d := d) (p := p) m d.n
    have lal : late.len = ((lateS st' d p m d.n).length : Int) := sla.1
    refine ⟨by rw [rng64]; omega, by rw [rng64]; omega, by rw [rng64]; omega, by rw [rng64]; omega, fun k => absurd rfl k, fun _ _ => ⟨fun k => absurd nl k, fun _ => ⟨by rw [tt, rng64]; unfold Sl.len at hf; omega, fun k => absurd tt k, fun _ => ⟨trivial, fun v hvv => ⟨fun k => absurd (hvv.2 hv') k, fun _ _ => ?_⟩⟩⟩⟩⟩
    have dl : d.len = (d.n : Int) := rfl
    refine ⟨fun i g => (0 ≤ i ∧ i ≤ late.len) ∧ cnt late i g, fun i _ => (late.len - i).toNat, ⟨⟨Int.le_refl _, len0 late⟩, cnt_nil late⟩, fun i _ g ⟨⟨i0, i1⟩, hc⟩ => ⟨fun hi => ⟨i0, hi, fun _ _ => ?_⟩, fun hi sd => ?_⟩⟩
    · have c1 := (hc (late.int i 0)).1
      exact ⟨by rw [rng64]; show -9223372036854775808 ≤ Sl.int (Sl.mget g (late.int i 0) zi) 0 0 + 1 ∧ Sl.int (Sl.mget g (late.int i 0) zi) 0 0 + 1 ≤ 9223372036854775807; omega, by rw [rng64]; omega, ⟨⟨by omega, by omega⟩, cnt_step i0 hc⟩, by show (late.len - (i + 1)).toNat < (late.len - i).toNat; omega⟩
    have ei : i = late.len := by omega
    subst ei
    have isl : ∀ {k : Int}, 0 ≤ k → k < d.len → (0 < Sl.int (Sl.mget g (st' + k) zi) 0 0 ↔ lateP st' d p m k) := fun {k} k0 k1 => by
      refine (hc (st' + k)).2.trans ?_
      have lm := late_mem (st := st') (d := d) (p := p) (m := m) (n := d.n) (st' + k)
      rw [show st' + k - st' = k by omega] at lm
      constructor
      · rintro ⟨j, j0, j1, ej⟩
        exact (lm.1 ⟨j, j0, by omega, by rw [← sla.2 j j0 j1]; exact ej⟩).2.2
      · intro hp
        obtain ⟨j, j0, j1, ej⟩ := lm.2 ⟨by omega, by omega, hp⟩
        exact ⟨j, j0, by omega, by rw [sla.2 j j0 (by omega)]; exact ej⟩
    refine ⟨fun k => 0 ≤ k ∧ k ≤ d.len, fun k => (d.len - k).toNat, ⟨Int.le_refl _, d0⟩, fun k _ ⟨k0, k1⟩ => ⟨fun hk => ⟨by rw [rng64]; omega, trivial, fun x _ e1 _ hx => ⟨by rw [rng64]; omega, trivial, fun y _ e2 _ hy => ?_⟩⟩, fun _ => ⟨trivial, aw⟩⟩⟩
    have has : hasS st' d (st' + k) := ⟨by omega, by omega⟩
    have has' : hasS st' d' (st' + k) := ⟨by omega, by rw [hd.1]; omega⟩
    obtain ⟨qx, rfl⟩ := (hx.2 hv).2 has
    obtain ⟨qy, rfl⟩ := (hy.2 hv').2 has'
    have hx : x = openS st' d p (st' + k) := qx
    have hy : y = openS st' d' p' (st' + k) := qy
    have hy2 := hy.trans (op k0 hk)
    have cn := (hc (st' + k)).1
    have il := isl k0 hk
    have core : V_Settles_0 st' d p day m t g (fun k => 0 ≤ k ∧ k ≤ d.len) (fun k => (d.len - k).toNat) k x y := by
      unfold V_Settles_0
      refine ⟨by rw [rng64]; omega, fun _ => ⟨fun hz => ⟨fun hne => absurd ?_ hne, fun _ => ⟨by rw [rng64]; omega, ⟨by omega, by omega⟩, by show (d.len - (k + 1)).toNat < (d.len - k).toNat; omega⟩⟩, fun _ => ⟨by rw [rng64]; omega, ⟨by omega, by omega⟩, by show (d.len - (k + 1)).toNat < (d.len - k).toNat; omega⟩⟩⟩
      have hz : Sl.int (Sl.mget g (st' + k) zi) 0 0 = 0 := hz
      rw [hy2, if_neg (fun c => by have := il.2 c; omega)]
      exact hx
    refine ⟨fun k => absurd rfl k, fun _ => ⟨fun k => absurd rfl k, fun _ => ⟨by rw [rng64]; omega, fun _ => ⟨fun hpos => ⟨fun hle => ?_, fun _ => ⟨fun hne => ?_, fun _ => core⟩⟩, fun _ => core⟩⟩⟩⟩
    · have c := il.1 hpos
      have := c.2
      omega
    · have c := il.1 hpos
      rw [hy2, if_pos c] at hne
      exact absurd rfl hne

theorem Settles_ok : V_Settles := by
  intro st _ d _ p _ day _ m rm t _ _
  simp only [Bool.decide_eq_true]
  have aw : ∀ b : Bool, q_aAwake b → q_Settles st d p day m t b ∧ True := fun b hb => ⟨hb, trivial⟩
  refine ⟨trivial, fun f hf => ⟨fun _ => ⟨trivial, aw⟩, fun hf1 => ?_⟩⟩
  have hf := hf.1 (Classical.not_not.1 hf1)
  exact ⟨⟨trivial, fun name two s _ h => ⟨Settles_core hf.1 rm h, Settles_core hf.1 rm h⟩⟩, trivial, fun name two s _ h => Settles_core hf.1 rm h⟩

end Go.Sx.N
