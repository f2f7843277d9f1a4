/-
  The condition of TaxSplit: a scale with a row more that changes nothing. Conditions: none.
-/
import Derived.Test.YtedajccdbdlaoaaGreatNumVSplit
import Derived.Test.YtedajccdbdlaoaaGreatTaxPE
set_option linter.unusedVariables false
set_option linter.unusedSimpArgs false
namespace Go.Sx.N

def rowEq (s : Sl) (i : Int) (l : Sl) (j : Int) : Prop := s.int i 0 = l.int j 0 ∧ sameF (s.bool i 1) (s.sub i 2) (s.bool i 3) (s.sub i 4) (l.bool j 1) (l.sub j 2) (l.bool j 3) (l.sub j 4)

section
variable {s l : Sl} {i j p f : Int}
theorem rowEq.rq (h : rowEq s i l j) : rq s i = rq l j := h.2.fq
theorem rowEq.okB (h : rowEq s i l j) (o : okB l j) : okB s i := ⟨by rw [h.1]; exact o.1, h.2.symm.okR o.2⟩
theorem rowEq.PI (h : s.int i 0 = l.int j 0) (m A : Int) : PI s m A i = PI l m A j := by unfold N.PI; rw [h]

/-- The first rows, with a row more at a place. -/
def Part (l : Sl) (p f i : Int) (s : Sl) : Prop :=
  (i < p ∧ s.len = i ∧ ∀ j : Int, 0 ≤ j → j < i → rowEq s j l j) ∨
  (p ≤ i ∧ s.len = i + 1 ∧ (∀ j : Int, 0 ≤ j → j < p → rowEq s j l j) ∧ (s.int p 0 = f ∧ okR (s.bool p 1) (s.sub p 2) (s.bool p 3) (s.sub p 4) ∧ rq s p = rp l p) ∧ ∀ j : Int, p < j → j < i + 1 → rowEq s j l (j - 1))
def GoodP (l : Sl) (p f : Int) : Prop :=
  p = l.len + 1 ∨ ((0 ≤ p ∧ p ≤ l.len) ∧ (1 ≤ p → l.int (p - 1) 0 < f) ∧ (p < l.len → f < l.int p 0) ∧ 0 ≤ f ∧ f ≤ 1099511627776)

theorem rowEq_lt {r : Sl} (h : rowEq s i l j) (h0 : 0 ≤ i) (h1 : i < s.len) : rowEq (Sl.app s r) i l j := by
  unfold rowEq
  rw [int_app_lt h0 h1, bool_app_lt h0 h1, bool_app_lt h0 h1, sub_app_lt h0 h1, sub_app_lt h0 h1]
  exact h
theorem rowEq_new {x : Int} {a c : Bool} {b d : Sl} (hs : s.len = i) (hx : x = l.int j 0) (hf : sameF a b c d (l.bool j 1) (l.sub j 2) (l.bool j 3) (l.sub j 4)) : rowEq (Sl.app s (rowB x a b c d)) i l j := by
  unfold rowEq
  rw [int_app_ge (by omega), bool_app_ge (by omega), bool_app_ge (by omega), sub_app_ge (by omega), sub_app_ge (by omega), hs, Int.sub_self]
  exact ⟨hx, hf⟩
theorem sameF_refl (a : Bool) (b : Sl) (c : Bool) (d : Sl) : sameF a b c d a b c d := ⟨⟨rfl, SameI.refl _⟩, rfl, SameI.refl _⟩
theorem new_row {x : Int} {a c : Bool} {b d : Sl} (hs : s.len = i) : (Sl.app s (rowB x a b c d)).int i 0 = x ∧ (Sl.app s (rowB x a b c d)).bool i 1 = a ∧ (Sl.app s (rowB x a b c d)).sub i 2 = b ∧ (Sl.app s (rowB x a b c d)).bool i 3 = c ∧ (Sl.app s (rowB x a b c d)).sub i 4 = d := by
  rw [int_app_ge (by omega), bool_app_ge (by omega), bool_app_ge (by omega), sub_app_ge (by omega), sub_app_ge (by omega), hs, Int.sub_self]
  exact ⟨rfl, rfl, rfl, rfl, rfl⟩

/-- The next row. -/
theorem Part.next (h : Part l p f i s) (p0 : 0 ≤ p) (i0 : 0 ≤ i) (hne : i + 1 ≠ p) : Part l p f (i + 1) (Sl.app s (rowB (l.int i 0) (l.bool i 1) (l.sub i 2) (l.bool i 3) (l.sub i 4))) := by
  have l1 : (rowB (l.int i 0) (l.bool i 1) (l.sub i 2) (l.bool i 3) (l.sub i 4)).len = 1 := rfl
  rcases h with ⟨h1, h2, h3⟩ | ⟨h1, h2, h3, ⟨h4, h5, h6⟩, h7⟩
  · refine .inl ⟨by omega, by rw [len_app, l1, h2], fun j j0 j1 => ?_⟩
    by_cases e : j = i
    · subst e; exact rowEq_new h2 rfl (sameF_refl _ _ _ _)
    · exact rowEq_lt (h3 j j0 (by omega)) j0 (by omega)
  · refine .inr ⟨by omega, by rw [len_app, l1, h2], fun j j0 j1 => rowEq_lt (h3 j j0 j1) j0 (by omega), ?_, fun j j0 j1 => ?_⟩
    · unfold rq
      rw [int_app_lt (by omega) (by omega), bool_app_lt (by omega) (by omega), bool_app_lt (by omega) (by omega), sub_app_lt (by omega) (by omega), sub_app_lt (by omega) (by omega)]
      exact ⟨h4, h5, h6⟩
    · by_cases e : j = i + 1
      · subst e; rw [show i + 1 - 1 = i by omega]; exact rowEq_new h2 rfl (sameF_refl _ _ _ _)
      · exact rowEq_lt (h7 j j0 (by omega)) (by omega) (by omega)

/-- The row more. -/
theorem Part.more {a c : Bool} {b d : Sl} (h : Part l (i + 1) f i s) (i0 : 0 ≤ i) (ok : okR a b c d) (hq : fq a b d = rq l i) :
    Part l (i + 1) f (i + 1) (Sl.app (Sl.app s (rowB (l.int i 0) (l.bool i 1) (l.sub i 2) (l.bool i 3) (l.sub i 4))) (rowB f a b c d)) := by
  have l1 : (rowB (l.int i 0) (l.bool i 1) (l.sub i 2) (l.bool i 3) (l.sub i 4)).len = 1 := rfl
  have l2 : (rowB f a b c d).len = 1 := rfl
  rcases h with ⟨h1, h2, h3⟩ | ⟨h1, h2, h3, ⟨h4, h5, h6⟩, h7⟩
  · have e1 : (Sl.app s (rowB (l.int i 0) (l.bool i 1) (l.sub i 2) (l.bool i 3) (l.sub i 4))).len = i + 1 := by rw [len_app, l1, h2]
    obtain ⟨n1, n2, n3, n4, n5⟩ := new_row (s := Sl.app s (rowB (l.int i 0) (l.bool i 1) (l.sub i 2) (l.bool i 3) (l.sub i 4))) (x := f) (a := a) (b := b) (c := c) (d := d) e1
    refine .inr ⟨by omega, by rw [len_app, e1, l2], fun j j0 j1 => rowEq_lt ?_ j0 (by omega), ⟨n1, ?_, ?_⟩, fun j j0 j1 => by omega⟩
    · by_cases e : j = i
      · subst e; exact rowEq_new h2 rfl (sameF_refl _ _ _ _)
      · exact rowEq_lt (h3 j j0 (by omega)) j0 (by omega)
    · rw [n2, n3, n4, n5]; exact ok
    · unfold rp
      rw [if_neg (by omega), show i + 1 - 1 = i by omega]
      show fq _ _ _ = _
      rw [n2, n3, n5]; exact hq
  · omega

theorem rp_in (h : Part l p f l.len s) (hp : 0 ≤ p ∧ p ≤ l.len) {n : Nat} : ((n : Int) ≤ p → rp s n = rp l n) ∧ (p ≤ n → (n : Int) ≤ l.len → rp s ((n + 1 : Nat) : Int) = rp l n) := by
  rcases h with ⟨h1, _⟩ | ⟨h1, h2, h3, ⟨h4, h5, h6⟩, h7⟩
  · omega
  have lt : (n : Int) ≤ p → rp s n = rp l n := fun hn => by
    cases n with
    | zero => rfl
    | succ n =>
      rw [rp_succ, rp_succ]
      exact (h3 n (by omega) (by omega)).rq
  refine ⟨lt, fun hn hl => ?_⟩
  rw [rp_succ]
  by_cases e : (n : Int) = p
  · rw [e, h6]
  · cases n with
    | zero => omega
    | succ n =>
      rw [rp_succ]
      have := (h7 ((n + 1 : Nat) : Int) (by omega) (by omega)).rq
      rw [show (((n + 1 : Nat) : Int) - 1) = (n : Int) by omega] at this
      exact this

theorem TN_in (h : Part l p f l.len s) (hp : 0 ≤ p ∧ p ≤ l.len) (m A : Int) : ∀ n : Nat, ((n : Int) ≤ p → TN s m A n = TN l m A n) ∧ (p ≤ n → (n : Int) ≤ l.len → TN s m A (n + 1) = TN l m A n) := by
  have h' := h
  rcases h with ⟨h1, _⟩ | ⟨h1, h2, h3, ⟨h4, h5, h6⟩, h7⟩
  · omega
  have lo : ∀ n : Nat, (n : Int) ≤ p → TN s m A n = TN l m A n := by
    intro n
    induction n with
    | zero => intro _; rfl
    | succ n ih =>
      intro hn
      have r := h3 n (by omega) (by omega)
      simp only [TN]
      rw [ih (by omega), r.rq, rowEq.PI r.1, (rp_in h' hp (n := n)).1 (by omega)]
  have at_ : ∀ n : Nat, (n : Int) = p → TN s m A (n + 1) = TN l m A n := fun n hn => by
    simp only [TN]
    rw [lo n (by omega), (rp_in h' hp (n := n)).1 (by omega), hn, h6]
    grind
  intro n
  refine ⟨lo n, ?_⟩
  induction n with
  | zero => intro hn _; exact at_ 0 (by omega)
  | succ n ih =>
    intro hn hl
    by_cases e : ((n + 1 : Nat) : Int) = p
    · exact at_ _ e
    · have r := h7 ((n + 1 : Nat) : Int) (by omega) (by omega)
      rw [show (((n + 1 : Nat) : Int) - 1) = (n : Int) by omega] at r
      rw [TN, ih (by omega) (by omega), TN, r.rq, rowEq.PI r.1, (rp_in h' hp (n := n)).2 (by omega) (by omega)]

/-- A row more that changes nothing. -/
theorem Part.eqv (v : validS l) (h : Part l p f l.len s) (g : GoodP l p f) (hl : l.len < 20) : validS s ∧ ∀ m A : Int, TT s m A = TT l m A := by
  have l0 := len0 l
  rcases g with e | ⟨hp, g1, g2, g3, g4⟩
  · rcases h with ⟨h1, h2, h3⟩ | ⟨h1, _⟩
    · have sb : sameB s l := ⟨h2, fun i i0 i1 => h3 i i0 (by omega)⟩
      exact ⟨sb.symm.valid v, fun m A => sb.TT m A⟩
    · omega
  · have tn := TN_in h hp
    rcases h with ⟨h1, _⟩ | ⟨h1, h2, h3, ⟨h4, h5, h6⟩, h7⟩
    · omega
    have rows : ∀ i : Int, 0 ≤ i → i < s.len → (0 ≤ s.int i 0 ∧ s.int i 0 ≤ 1099511627776) ∧ okR (s.bool i 1) (s.sub i 2) (s.bool i 3) (s.sub i 4) := fun i i0 i1 => by
      by_cases e : i < p
      · exact (h3 i i0 e).okB (v.2.1 i i0 (by omega))
      · by_cases e' : i = p
        · subst e'; exact ⟨by omega, h5⟩
        · exact (h7 i (by omega) (by omega)).okB (v.2.1 (i - 1) (by omega) (by omega))
    refine ⟨⟨by omega, rows, fun i i0 i1 => ?_⟩, fun m A => ?_⟩
    · unfold okP
      by_cases e : i < p
      · have a := h3 (i - 1) (by omega) (by omega)
        have b := h3 i (by omega) e
        rw [a.1, b.1, a.rq, b.rq]
        exact v.2.2 i i0 (by omega)
      · by_cases e' : i = p
        · subst e'
          have a := h3 (i - 1) (by omega) (by omega)
          rw [a.1, a.rq, h4, h6]
          refine ⟨g1 i0, ?_⟩
          unfold rp
          rw [if_neg (by omega)]
          exact Rat.le_refl
        · have b := h7 i (by omega) (by omega)
          by_cases e2 : i - 1 = p
          · rw [e2, h4, h6, b.1, b.rq, e2]
            refine ⟨g2 (by omega), ?_⟩
            unfold rp
            by_cases ez : p = 0
            · rw [if_pos ez]; exact (v.at (i := p) (by omega) (by omega)).2.1
            · rw [if_neg ez]; exact (v.2.2 p (by omega) (by omega)).2
          · have a := h7 (i - 1) (by omega) (by omega)
            rw [a.1, b.1, a.rq, b.rq]
            exact v.2.2 (i - 1) (by omega) (by omega)
    · unfold TT
      have e : s.len.toNat = l.len.toNat + 1 := by omega
      rw [e, (tn m A l.len.toNat).2 (by omega) (by omega)]
end

theorem Split_ok : V_Split := by
  intro l _ y1 _ y2 _ y3 _ y4 r4 _
  rw [rngu8] at r4
  simp only [Bool.decide_eq_true]
  refine ⟨trivial, fun b hb => ⟨fun h => absurd hb h, fun _ => ⟨trivial, fun c hc => ⟨fun _ => ⟨rfl, trivial⟩, fun hf => ⟨trivial, fun d hd => ⟨fun _ => ⟨rfl, trivial⟩, fun hv _ => ⟨fun _ => ⟨rfl, trivial⟩, fun hz _ => ⟨fun _ => ⟨rfl, trivial⟩, fun h20 _ => ⟨trivial, fun k _ hk => ⟨trivial, fun A _ hA => ?_⟩⟩⟩⟩⟩⟩⟩⟩⟩⟩
  have v := hd.1 (Classical.not_not.1 hv)
  have hfit := hc.1 (Classical.not_not.1 hf)
  have l0 := len0 l
  have hk := pick_bd hk (by omega)
  have hA := pick_bd hA (by decide)
  have aA : amt A := ⟨by omega, by omega⟩
  refine ⟨fun top => (k + 1 < l.len → top = l.int (k + 1) 0) ∧ (¬ (k + 1 < l.len) → top = 1099511627777), ⟨by rw [rng64]; omega, fun _ => ⟨fun h => ⟨by rw [rng64]; omega, by omega, h, fun _ => ⟨fun _ => rfl, fun k => absurd h k⟩⟩, fun h => ⟨fun k => absurd k h, fun _ => rfl⟩⟩⟩, fun top _ ht => ⟨hk.1, hk.2, fun _ => ?_⟩⟩
  have vk := (v.at hk.1 hk.2).1
  have tb : l.int k 0 < top ∧ top ≤ 1099511627777 := by
    by_cases h : k + 1 < l.len
    · have := ht.1 h
      have a := (v.at (i := k + 1) (by omega) h).1
      have b := (v.2.2 (k + 1) (by omega) h).1
      rw [show k + 1 - 1 = k by omega] at b
      omega
    · have := ht.2 h; omega
  refine ⟨by rw [rng64]; omega, hk.1, hk.2, fun _ => ⟨by rw [rng64]; omega, by rw [rng64]; omega, trivial, fun w _ hw => ?_⟩⟩
  have hw : 0 ≤ w ∧ w < 1099511627778 := by
    obtain ⟨N, hN⟩ : ∃ N, N = imax (top - l.int k 0 - 1) 1 := ⟨_, rfl⟩
    rw [← hN] at hw
    have b : 1 ≤ N ∧ N ≤ 1099511627778 := by unfold imax at hN; split at hN <;> omega
    have := pick_bd hw b.1
    omega
  obtain ⟨fr, hfr⟩ : ∃ fr, fr = l.int k 0 + 1 + w := ⟨_, rfl⟩
  rw [← hfr]
  have z0 := (v.at (i := 0) (by decide) (by omega)).1
  refine ⟨by rw [rng64]; omega, fun s => ∃ p f, GoodP l p f ∧ (p = 0 ∨ p = l.len + 1) ∧ Part l p f 0 s, ⟨by decide, by omega, fun _ => ⟨fun hp => ⟨by decide, by omega, fun _ => ⟨trivial, fun x _ hx => ⟨trivial, fun oa ob rob oc od rod ho => ⟨?_, ?_⟩⟩⟩⟩, fun hn => ?_⟩⟩, fun zs _ hzs => ?_⟩
  · show ((0 : Int) + 1) * 72 ≤ _
    decide
  · have hx := pick_bd hx (by omega)
    obtain ⟨n1, n2, n3, n4, n5⟩ := new_row (s := Sl.nil) (i := 0) (x := x) (a := oa) (b := ob) (c := oc) (d := od) rfl
    have q0 : fq oa ob od = 0 := ho.1.fq
    refine ⟨0, x, .inr ⟨⟨by omega, by omega⟩, fun h => by omega, fun _ => hx.2, hx.1, by omega⟩, .inl rfl, .inr ⟨by omega, rfl, fun j j0 j1 => by omega, ⟨n1, ?_, ?_⟩, fun j j0 j1 => by omega⟩⟩
    · show okR ((Sl.app Sl.nil (rowB x oa ob oc od)).bool 0 1) ((Sl.app Sl.nil (rowB x oa ob oc od)).sub 0 2) ((Sl.app Sl.nil (rowB x oa ob oc od)).bool 0 3) ((Sl.app Sl.nil (rowB x oa ob oc od)).sub 0 4)
      rw [n2, n3, n4, n5]
      exact ⟨fromInt_ok ho, by rw [q0]; exact Rat.le_refl, by rw [q0]; decide, by rw [q0]; decide⟩
    · show fq ((Sl.app Sl.nil (rowB x oa ob oc od)).bool 0 1) ((Sl.app Sl.nil (rowB x oa ob oc od)).sub 0 2) ((Sl.app Sl.nil (rowB x oa ob oc od)).sub 0 4) = 0
      rw [n2, n3, n5]; exact q0
  · exact ⟨l.len + 1, 0, .inl rfl, .inr rfl, .inl ⟨by omega, rfl, fun j j0 j1 => by omega⟩⟩
  obtain ⟨pz, fz, gz, pz0, hz0⟩ := hzs
  obtain ⟨pm, hpm⟩ : ∃ pm : Int, pm = if fr < top then k + 1 else l.len + 1 := ⟨_, rfl⟩
  have gm : GoodP l pm fr := by
    by_cases h : fr < top
    · rw [if_pos h] at hpm
      refine .inr ⟨⟨by omega, by omega⟩, fun _ => ?_, fun hlt => ?_, by omega, by omega⟩
      · rw [hpm, show k + 1 - 1 = k by omega]; omega
      · rw [hpm] at hlt ⊢
        have := ht.1 hlt; omega
    · rw [if_neg h] at hpm
      exact .inl hpm
  refine ⟨fun m z i => (0 ≤ i ∧ i ≤ l.len) ∧ Part l pm fr i m ∧ Part l pz fz i z, fun _ _ i => (l.len - i).toNat, ⟨⟨by omega, by omega⟩, .inl ⟨by rw [hpm]; split <;> omega, rfl, fun j j0 j1 => by omega⟩, hz0⟩, fun ms _ zs _ i _ hJ _ => ⟨fun hi => ?_, fun hi => ?_⟩⟩
  · obtain ⟨⟨i0, i1⟩, hm, hzz⟩ := hJ
    have lm : 0 ≤ ms.len ∧ ms.len ≤ 21 := by rcases hm with ⟨_, h, _⟩ | ⟨_, h, _⟩ <;> omega
    have lz : 0 ≤ zs.len ∧ zs.len ≤ 21 := by rcases hzz with ⟨_, h, _⟩ | ⟨_, h, _⟩ <;> omega
    have lr : (Sl.lit [[D.int (l.int i 0), .bool (l.bool i 1), Sl.d (l.sub i 2), .bool (l.bool i 3), Sl.d (l.sub i 4)]]).len = 1 := rfl
    have rowi : Sl.lit [[D.int (l.int i 0), .bool (l.bool i 1), Sl.d (l.sub i 2), .bool (l.bool i 3), Sl.d (l.sub i 4)]] = rowB (l.int i 0) (l.bool i 1) (l.sub i 2) (l.bool i 3) (l.sub i 4) := rfl
    have J : Sl → Sl → Prop := fun a b => a = Sl.app ms (rowB (l.int i 0) (l.bool i 1) (l.sub i 2) (l.bool i 3) (l.sub i 4)) ∧ b = Sl.app zs (rowB (l.int i 0) (l.bool i 1) (l.sub i 2) (l.bool i 3) (l.sub i 4))
    have v0 : V_Split_0 l ms zs i (fun a b => a = Sl.app ms (rowB (l.int i 0) (l.bool i 1) (l.sub i 2) (l.bool i 3) (l.sub i 4)) ∧ b = Sl.app zs (rowB (l.int i 0) (l.bool i 1) (l.sub i 2) (l.bool i 3) (l.sub i 4))) := by
      unfold V_Split_0
      simp only [Bool.decide_eq_true]
      exact ⟨by rw [lr]; omega, rfl, rfl⟩
    have v1 : V_Split_1 l ms zs i (fun a b => a = Sl.app ms (rowB (l.int i 0) (l.bool i 1) (l.sub i 2) (l.bool i 3) (l.sub i 4)) ∧ b = Sl.app zs (rowB (l.int i 0) (l.bool i 1) (l.sub i 2) (l.bool i 3) (l.sub i 4))) := by
      unfold V_Split_1
      simp only [Bool.decide_eq_true]
      exact ⟨by rw [lr]; omega, v0⟩
    have v2 : V_Split_2 l ms zs i (fun a b => a = Sl.app ms (rowB (l.int i 0) (l.bool i 1) (l.sub i 2) (l.bool i 3) (l.sub i 4)) ∧ b = Sl.app zs (rowB (l.int i 0) (l.bool i 1) (l.sub i 2) (l.bool i 3) (l.sub i 4))) := ⟨v1, v1⟩
    have v3 : V_Split_3 l ms zs i (fun a b => a = Sl.app ms (rowB (l.int i 0) (l.bool i 1) (l.sub i 2) (l.bool i 3) (l.sub i 4)) ∧ b = Sl.app zs (rowB (l.int i 0) (l.bool i 1) (l.sub i 2) (l.bool i 3) (l.sub i 4))) := fun _ _ _ => ⟨v2, v1⟩
    refine ⟨fun m z => Part l pm fr (i + 1) m ∧ Part l pz fz (i + 1) z, ⟨_, ⟨i0, hi, i0, hi, fun _ _ _ => ⟨⟨⟨by rw [lr]; omega, fun _ _ _ => v0⟩, fun _ _ _ => v2⟩, v3⟩, fun _ _ _ => ⟨v3, fun _ _ _ => v1⟩⟩, fun m _ z _ hmz => ?_⟩, fun m _ z _ hmz => ⟨by rw [rng64]; omega, ⟨⟨by omega, by omega⟩, hmz.1, hmz.2⟩, by show (l.len - (i + 1)).toNat < (l.len - i).toNat; omega⟩⟩
    obtain ⟨rfl, rfl⟩ := hmz
    have nz : Part l pz fz (i + 1) (Sl.app zs (rowB (l.int i 0) (l.bool i 1) (l.sub i 2) (l.bool i 3) (l.sub i 4))) := hzz.next (by omega) i0 (by omega)
    refine ⟨fun ek => ⟨fun hlt => ⟨hk.1, hk.2, fun _ _ => ⟨?_, fun ca cb rcb cc cd rcd hcp => ⟨?_, ?_, nz⟩⟩⟩, fun hge => ⟨hm.next (by rw [hpm]; split <;> omega) i0 ?_, nz⟩⟩, fun hne => ⟨hm.next (by rw [hpm]; split <;> omega) i0 ?_, nz⟩⟩
    · exact fits_lim hfit hk.1 hk.2
    · have : (Sl.app ms (rowB (l.int i 0) (l.bool i 1) (l.sub i 2) (l.bool i 3) (l.sub i 4))).len = ms.len + 1 := by rw [len_app]; rfl
      rw [this]
      show (ms.len + 1 + 1) * 72 ≤ _
      omega
    · subst ek
      rw [if_pos hlt] at hpm
      subst hpm
      have sf : sameF ca cb cc cd (l.bool i 1) (l.sub i 2) (l.bool i 3) (l.sub i 4) := ⟨⟨hcp.1, hcp.2.1⟩, hcp.2.2.1, hcp.2.2.2⟩
      exact hm.more i0 (sf.symm.okR (v.2.1 i i0 hi).2) sf.fq
    · rw [hpm, if_neg hge]; omega
    · rw [hpm]; split <;> omega
  · obtain ⟨⟨i0, i1⟩, hm, hzz⟩ := hJ
    have e : i = l.len := by omega
    subst e
    obtain ⟨vm, tm⟩ := hm.eqv v gm (by omega)
    obtain ⟨vz, tz⟩ := hzz.eqv v gz (by omega)
    rw [tmod12 r4.1]
    have mb : 1 ≤ 1 + y4 % 12 ∧ 1 + y4 % 12 ≤ 12 := by omega
    refine ⟨by decide, by rw [rngu8]; omega, by rw [rng64]; omega, trivial, fun xa xb rxb xc xd rxd e1 _ hx => ⟨trivial, fun ya yb ryb yc yd ryd e2 _ hy => ⟨trivial, fun za zb rzb zc zd rzd e3 _ hz => ⟨trivial, fun d1 _ e4 _ h4 => ⟨trivial, fun d2 _ e5 _ h5 => ⟨trivial, fun d3 _ e6 _ h6 => ?_⟩⟩⟩⟩⟩⟩
    obtain ⟨qx, ox, rfl⟩ := hx.1 ⟨v, aA⟩
    obtain ⟨qy, oy, rfl⟩ := hy.1 ⟨vm, aA⟩
    obtain ⟨qz, oz, rfl⟩ := hz.1 ⟨vz, aA⟩
    rw [tm] at qy
    rw [tz] at qz
    obtain ⟨g1, rfl⟩ := h4.1 ⟨v, mb, aA⟩
    obtain ⟨g2, rfl⟩ := h5.1 ⟨vm, mb, aA⟩
    obtain ⟨g3, rfl⟩ := h6.1 ⟨vz, mb, aA⟩
    rw [tm, ← g1] at g2
    rw [tz, ← g1] at g3
    refine ⟨by rw [rng64]; decide, by rw [rng64]; decide, by rw [rng64]; decide, by rw [rng64]; decide, by rw [rng64]; decide, fun _ => ⟨trivial, fun s1 hs1 => ⟨fun _ => ⟨trivial, fun s2 hs2 => ⟨fun _ => ⟨fun _ => ⟨?_, trivial⟩, fun h => absurd g2.symm h⟩, fun h => absurd (hs2.2 (qx.same qz (ranged16 rxb) (ranged16 rxd) (ranged16 rzb) (ranged16 rzd))) h⟩⟩, fun h => absurd (hs1.2 (qx.same qy (ranged16 rxb) (ranged16 rxd) (ranged16 ryb) (ranged16 ryd))) h⟩⟩, fun h => absurd rfl h⟩
    show decide (d1 = d3) = true
    rw [decide_eq_true_eq]; exact g3.symm

end Go.Sx.N
