/-
  Scales that are the same, and copies of them. Conditions: none.
  Conditions of the statements' helpers. Conditions: none.
  Conditions of the payments' comparison, of the examples, and of the scale of a year. Conditions: none.
  The tax as a function of the income and the month. Conditions: none.
-/
import Derived.Test.YtedajccdbdlaoaaGreatNumVL
import Derived.Test.YtedajccdbdlaoaaGreatTaxFb
set_option linter.unusedVariables false
set_option linter.unusedSimpArgs false
namespace Go.Sx.N

theorem sameF.symm {a c a' c' : Bool} {b d b' d' : Sl} (h : sameF a b c d a' b' c' d') : sameF a' b' c' d' a b c d := ⟨⟨h.1.1.symm, h.1.2.symm⟩, h.2.1.symm, h.2.2.symm⟩
theorem sameF.fq {a c a' c' : Bool} {b d b' d' : Sl} (h : sameF a b c d a' b' c' d') : fq a b d = fq a' b' d' := by
  have e1 : vl b = vl b' := h.1.2.val 65536
  have e2 : vl d = vl d' := h.2.2.val 65536
  unfold N.fq zv
  rw [e1, e2, h.1.1]
theorem sameF.ok {a c a' c' : Bool} {b d b' d' : Sl} (h : sameF a b c d a' b' c' d') (o : okF a b c d) : okF a' b' c' d' := by
  have q := o.isQ.of_same h.1.1.symm h.1.2.symm h.2.1.symm h.2.2.symm
  exact ⟨q.lowF, by have := h.1.2.1; have := o.2.1; omega, by have := h.2.2.1; have := o.2.2; omega⟩
theorem sameF.okR {a c a' c' : Bool} {b d b' d' : Sl} (h : sameF a b c d a' b' c' d') (o : okR a b c d) : okR a' b' c' d' := by
  have e := h.fq
  refine ⟨h.ok o.1, ?_⟩
  rw [← e]; exact o.2
theorem sameB.symm {l m : Sl} (h : sameB l m) : sameB m l := ⟨h.1.symm, fun i i0 i1 => have k := h.2 i i0 (by rw [h.1]; exact i1); ⟨k.1.symm, k.2.symm⟩⟩
theorem sameF.trans {a c a' c' a2 c2 : Bool} {b d b' d' b2 d2 : Sl} (h : sameF a b c d a' b' c' d') (g : sameF a' b' c' d' a2 b2 c2 d2) : sameF a b c d a2 b2 c2 d2 :=
  ⟨⟨h.1.1.trans g.1.1, h.1.2.trans g.1.2⟩, h.2.1.trans g.2.1, h.2.2.trans g.2.2⟩
theorem sameB.trans {l m k : Sl} (h : sameB l m) (g : sameB m k) : sameB l k :=
  ⟨h.1.trans g.1, fun i i0 i1 => have a := h.2 i i0 i1; have b := g.2 i i0 (by rw [← h.1]; exact i1); ⟨a.1.trans b.1, a.2.trans b.2⟩⟩
theorem sameB.refl (l : Sl) : sameB l l := ⟨rfl, fun _ _ _ => ⟨rfl, ⟨rfl, SameI.refl _⟩, rfl, SameI.refl _⟩⟩
theorem sameB.rq {l m : Sl} (h : sameB l m) {i : Int} (i0 : 0 ≤ i) (i1 : i < l.len) : rq l i = rq m i := (h.2 i i0 i1).2.fq
theorem sameB.valid {l m : Sl} (h : sameB l m) (v : validS l) : validS m := by
  obtain ⟨v1, v2, v3⟩ := v
  have e := h.1
  refine ⟨by omega, fun i i0 i1 => ?_, fun i i0 i1 => ?_⟩
  · have k := h.2 i i0 (by omega)
    have b := v2 i i0 (by omega)
    exact ⟨by rw [← k.1]; exact b.1, k.2.okR b.2⟩
  · have k := h.2 i (by omega) (by omega)
    have k' := h.2 (i - 1) (by omega) (by omega)
    have p := v3 i i0 (by omega)
    exact ⟨by rw [← k.1, ← k'.1]; exact p.1, by rw [← h.rq (i := i) (by omega) (by omega), ← h.rq (i := i - 1) (by omega) (by omega)]; exact p.2⟩
theorem sameB.valid_iff {l m : Sl} (h : sameB l m) : validS l ↔ validS m := ⟨h.valid, h.symm.valid⟩
theorem sameB.TN {l m : Sl} (h : sameB l m) (k A : Int) : ∀ n : Nat, (n : Int) ≤ l.len → TN l k A n = TN m k A n
  | 0, _ => rfl
  | n + 1, hn => by
    have ih := h.TN k A n (by omega)
    have e1 := (h.2 n (by omega) (by omega)).1
    have e2 := h.rq (i := n) (by omega) (by omega)
    have e3 : rp l n = rp m n := by
      unfold rp
      by_cases e : (n : Int) = 0
      · rw [if_pos e, if_pos e]
      · rw [if_neg e, if_neg e]; exact h.rq (by omega) (by omega)
    simp only [N.TN]
    rw [ih, e2, e3]
    unfold PI
    rw [e1]
theorem sameB.TT {l m : Sl} (h : sameB l m) (k A : Int) : TT l k A = TT m k A := by
  unfold N.TT
  have l0 := len0 l
  rw [h.TN k A _ (by omega), h.1]
theorem sameY.symm {y z : Sl} (h : sameY y z) : sameY z y := ⟨h.1.symm, fun i i0 i1 => have k := h.2 i i0 (by rw [h.1]; exact i1); ⟨k.1.symm, k.2.symm⟩⟩
theorem sameY.valid {y z : Sl} (h : sameY y z) (v : validY y) : validY z := by
  have e := h.1
  refine ⟨fun i i0 i1 => (h.2 i i0 (by omega)).2.valid (v.1 i i0 (by omega)), fun i i0 i1 => ?_⟩
  rw [← (h.2 i (by omega) (by omega)).1, ← (h.2 (i - 1) (by omega) (by omega)).1]
  exact v.2 i i0 (by omega)
theorem sameY.appl {y z : Sl} (h : sameY y z) {year i : Int} (a : Appl y year i) : Appl z year i := by
  have e := h.1
  refine ⟨a.1, by have := a.2.1; omega, by rw [← (h.2 i a.1 a.2.1).1]; exact a.2.2.1, fun j j0 j1 => ?_⟩
  rw [← (h.2 j (by have := a.1; omega) (by omega)).1]
  exact a.2.2.2 j j0 (by omega)
theorem sameY.no {y z : Sl} (h : sameY y z) {year : Int} (a : noAppl y year) : noAppl z year := fun j j0 j1 => by
  have e := h.1
  rw [← (h.2 j j0 (by omega)).1]
  exact a j j0 (by omega)
theorem appl_or (y : Sl) (year : Int) : noAppl y year ∨ ∃ i, Appl y year i := by
  have l0 := len0 y
  have key : ∀ n : Nat, (n : Int) ≤ y.len → (∀ j : Int, (n : Int) ≤ j → j < y.len → year < y.int j 0) → noAppl y year ∨ ∃ i, Appl y year i := by
    intro n
    induction n with
    | zero => intro _ h; exact .inl fun j j0 j1 => h j (by omega) j1
    | succ n ih =>
      intro hn h
      by_cases e : y.int n 0 ≤ year
      · exact .inr ⟨n, by omega, by omega, e, fun j j0 j1 => h j (by omega) j1⟩
      · refine ih (by omega) fun j j0 j1 => ?_
        by_cases e' : j = n
        · subst e'; omega
        · exact h j (by omega) j1
  exact key y.len.toNat (by omega) fun j j0 j1 => by omega
theorem held_same {y z : Sl} {mo g t month gross r mo' g' t' e r2 mo2 g2 t2 e2 : Int} (h : sameY z y) (a : held y mo g t month gross r mo' g' t' e) (b : held z mo g t month gross r2 mo2 g2 t2 e2) :
    r = r2 ∧ mo' = mo2 ∧ g' = g2 ∧ t' = t2 ∧ e = e2 := by
  by_cases ok : okP6 y mo g t month gross
  · have okz : okP6 z mo g t month gross := ⟨h.symm.valid ok.1, ok.2⟩
    rcases appl_or y (1900 + month / 12) with n | ⟨i, hi⟩
    · obtain ⟨a1, a2, a3, a4, a5⟩ := (a.2 ok).1 n
      obtain ⟨b1, b2, b3, b4, b5⟩ := (b.2 okz).1 (h.symm.no n)
      omega
    · have p := (a.2 ok).2 i hi
      have q := (b.2 okz).2 i (h.symm.appl hi)
      by_cases k : 1099511627776 < goes mo month g + gross
      · obtain ⟨a1, a2, a3, a4, a5⟩ := p.1 k
        obtain ⟨b1, b2, b3, b4, b5⟩ := q.1 k
        omega
      · obtain ⟨a1, a2, a3, a4, a5⟩ := p.2 (by omega)
        obtain ⟨b1, b2, b3, b4, b5⟩ := q.2 (by omega)
        have eg : g' = g2 := by omega
        have et : t' = t2 := by rw [a3, b3, ← eg, ((h.2 i hi.1 (by have := h.1; have := hi.2.1; omega)).2).TT]
        exact ⟨by omega, by omega, eg, et, by omega⟩
  · have okz : ¬ okP6 z mo g t month gross := fun k => ok ⟨h.valid k.1, k.2⟩
    obtain ⟨a1, a2, a3, a4, a5⟩ := a.1 ok
    obtain ⟨b1, b2, b3, b4, b5⟩ := b.1 okz
    omega
/-- Where the payment is accepted the sum stays in range. -/
theorem zero_same {a c a' c' : Bool} {b d b' d' : Sl} (h : zeroF a b c d) (g : zeroF a' b' c' d') : sameF a b c d a' b' c' d' := by
  obtain ⟨h1, h2, h3, h4⟩ := h
  obtain ⟨g1, g2, g3, g4⟩ := g
  exact ⟨⟨h1.trans g1.symm, by omega, fun i _ _ => by omega⟩, h3.trans g3.symm, by omega, fun i _ _ => by omega⟩

theorem fits_ok : V_fits := by
  intro l rl _ sm
  have l0 := len0 l
  have no : ¬ fitsB l → q_fits l (decide False) ∧ True := fun h => ⟨by simp only [q_fits, decide_false, Bool.false_eq_true, false_iff]; exact h, trivial⟩
  refine ⟨fun h => no fun k => by have := k.1; omega, fun hl => ⟨fun i => 0 ≤ i ∧ i ≤ l.len ∧ ∀ k : Int, 0 ≤ k → k < i → (l.sub k 2).len + (l.sub k 4).len ≤ 600, fun i => (l.len - i).toNat, ⟨by omega, by omega, fun k _ _ => by omega⟩, fun i _ hJ _ => ?_⟩⟩
  obtain ⟨i0, i1, hk⟩ := hJ
  have body : i < l.len → Small (l.sub i 2) → Small (l.sub i 4) → Rng .i64 ((l.sub i 2).len + (l.sub i 4).len) ∧ (((l.sub i 2).len + (l.sub i 4).len > 600 → q_fits l (decide False) ∧ True) ∧ (¬ ((l.sub i 2).len + (l.sub i 4).len > 600) →
      Rng .i64 (i + 1) ∧ ((0 ≤ i + 1 ∧ i + 1 ≤ l.len ∧ ∀ k : Int, 0 ≤ k → k < i + 1 → (l.sub k 2).len + (l.sub k 4).len ≤ 600) ∧ (l.len - (i + 1)).toNat < (l.len - i).toNat))) := by
    intro hi s2 s4
    have b2 := len0 (l.sub i 2)
    have b4 := len0 (l.sub i 4)
    have m2 := small64 s2
    have m4 := small64 s4
    refine ⟨by rw [rng64]; omega, fun h => no fun k => ?_, fun h => ⟨by rw [rng64]; omega, ⟨by omega, by omega, ?_⟩, by omega⟩⟩
    · have := k.2 i i0 hi; omega
    · intro k k0 k1
      by_cases e : k = i
      · subst e; omega
      · exact hk k k0 (by omega)
  refine ⟨fun hi => ⟨i0, hi, i0, hi, ⟨fun _ => ⟨fun a _ b => body hi a b, fun _ => ⟨fun a b => body hi a b, fun b a => body hi a b⟩⟩, fun _ => ⟨fun _ => ⟨fun a b => body hi a b, fun b a => body hi a b⟩, fun b _ a => body hi a b⟩⟩⟩, fun hi => ⟨?_, trivial⟩⟩
  simp only [q_fits, decide_true, true_iff]
  exact ⟨by omega, fun k k0 k1 => hk k k0 (by omega)⟩

theorem example_ok : V_example := by
  intro _
  simp only [Bool.decide_eq_true]
  exact ⟨by show (10 : Int) ≠ 0; decide, fun a b _ c d _ h => ⟨by show (10 : Int) ≠ 0; decide, fun a' b' _ c' d' _ g => ⟨⟨rfl, ⟨rfl, h⟩, rfl, g⟩, trivial⟩⟩⟩

theorem same_ok : V_same := by
  intro l _ m _ _ sm sm'
  simp only [Bool.decide_eq_true]
  have l0 := len0 l
  have no : ¬ sameB l m → q_same l m (decide False) ∧ True := fun h => ⟨by simp only [q_same, decide_false, Bool.false_eq_true, false_iff]; exact h, trivial⟩
  refine ⟨fun h => no fun k => h k.1, fun he => ⟨fun i => 0 ≤ i ∧ i ≤ l.len ∧ ∀ k : Int, 0 ≤ k → k < i → l.int k 0 = m.int k 0 ∧ sameF (l.bool k 1) (l.sub k 2) (l.bool k 3) (l.sub k 4) (m.bool k 1) (m.sub k 2) (m.bool k 3) (m.sub k 4), fun i => (l.len - i).toNat, ⟨by omega, by omega, fun k _ _ => by omega⟩, fun i _ hJ _ => ?_⟩⟩
  obtain ⟨i0, i1, hk⟩ := hJ
  have e : l.len = m.len := Classical.not_not.1 he
  have s64 := small64 sm
  have body : i < l.len → l.int i 0 = m.int i 0 → (p_kSameFrac (l.bool i 1) (l.sub i 2) (l.bool i 3) (l.sub i 4) (m.bool i 1) (m.sub i 2) (m.bool i 3) (m.sub i 4) ∧ ∀ v : Bool, q_kSameFrac (l.bool i 1) (l.sub i 2) (l.bool i 3) (l.sub i 4) (m.bool i 1) (m.sub i 2) (m.bool i 3) (m.sub i 4) v →
      ((¬ v = true → q_same l m (decide False) ∧ True) ∧ (¬ ¬ v = true → Rng .i64 (i + 1) ∧ ((0 ≤ i + 1 ∧ i + 1 ≤ l.len ∧ ∀ k : Int, 0 ≤ k → k < i + 1 → l.int k 0 = m.int k 0 ∧ sameF (l.bool k 1) (l.sub k 2) (l.bool k 3) (l.sub k 4) (m.bool k 1) (m.sub k 2) (m.bool k 3) (m.sub k 4)) ∧ (l.len - (i + 1)).toNat < (l.len - i).toNat)))) := by
    intro hi h1
    refine ⟨trivial, fun v hv => ⟨fun h => no fun k => h (hv.2 (k.2 i i0 hi).2), fun h => ⟨by rw [rng64]; omega, ⟨by omega, by omega, ?_⟩, by omega⟩⟩⟩
    intro k k0 k1
    by_cases e : k = i
    · subst e; exact ⟨h1, hv.1 (Classical.not_not.1 h)⟩
    · exact hk k k0 (by omega)
  refine ⟨fun hi => ⟨i0, hi, fun _ => ⟨i0, by omega, fun _ => ⟨fun h => no fun k => h (k.2 i i0 hi).1, fun h => ⟨i0, hi, i0, by omega, ⟨fun _ _ _ _ => body hi (by omega), fun _ _ _ _ => body hi (by omega)⟩⟩⟩⟩⟩, fun hi => ⟨?_, trivial⟩⟩
  simp only [q_same, decide_true, true_iff]
  exact ⟨e, fun k k0 k1 => hk k k0 (by omega)⟩

end Go.Sx.N

namespace Go.Sx.N

theorem bool_app_lt {a b : Sl} {i : Int} {j : Nat} (h : 0 ≤ i) (h' : i < a.len) : (Sl.app a b).bool i j = a.bool i j := by
  have : i.toNat < a.n := by unfold Sl.len at h'; omega
  show D.toB (if i.toNat < a.n then a.f i.toNat j else b.f (i.toNat - a.n) j) = _
  rw [if_pos this]; rfl
theorem sub_app_lt {a b : Sl} {i : Int} {j : Nat} (h : 0 ≤ i) (h' : i < a.len) : (Sl.app a b).sub i j = a.sub i j := by
  have : i.toNat < a.n := by unfold Sl.len at h'; omega
  show D.toS (if i.toNat < a.n then a.f i.toNat j else b.f (i.toNat - a.n) j) = _
  rw [if_pos this]; rfl
theorem bool_app_ge {a b : Sl} {i : Int} {j : Nat} (h : a.len ≤ i) : (Sl.app a b).bool i j = b.bool (i - a.len) j := by
  have h0 := len0 a
  have : ¬ i.toNat < a.n := by unfold Sl.len at *; omega
  have e : (i - a.len).toNat = i.toNat - a.n := by unfold Sl.len at *; omega
  show D.toB (if i.toNat < a.n then a.f i.toNat j else b.f (i.toNat - a.n) j) = D.toB (b.f (i - a.len).toNat j)
  rw [if_neg this, e]
theorem sub_app_ge {a b : Sl} {i : Int} {j : Nat} (h : a.len ≤ i) : (Sl.app a b).sub i j = b.sub (i - a.len) j := by
  have h0 := len0 a
  have : ¬ i.toNat < a.n := by unfold Sl.len at *; omega
  have e : (i - a.len).toNat = i.toNat - a.n := by unfold Sl.len at *; omega
  show D.toS (if i.toNat < a.n then a.f i.toNat j else b.f (i.toNat - a.n) j) = D.toS (b.f (i - a.len).toNat j)
  rw [if_neg this, e]

/-- A row more. -/
def rowB (x : Int) (a : Bool) (b : Sl) (c : Bool) (d : Sl) : Sl := Sl.lit [[.int x, .bool a, Sl.d b, .bool c, Sl.d d]]
theorem sameB_to {s l : Sl} {i : Int} (i0 : 0 ≤ i) (hs : s.len = i) (h : ∀ k : Int, 0 ≤ k → k < i → s.int k 0 = l.int k 0 ∧ sameF (s.bool k 1) (s.sub k 2) (s.bool k 3) (s.sub k 4) (l.bool k 1) (l.sub k 2) (l.bool k 3) (l.sub k 4))
    {x : Int} {a c : Bool} {b d : Sl} (hx : x = l.int i 0) (hf : sameF a b c d (l.bool i 1) (l.sub i 2) (l.bool i 3) (l.sub i 4)) :
    (Sl.app s (rowB x a b c d)).len = i + 1 ∧ ∀ k : Int, 0 ≤ k → k < i + 1 → (Sl.app s (rowB x a b c d)).int k 0 = l.int k 0 ∧ sameF ((Sl.app s (rowB x a b c d)).bool k 1) ((Sl.app s (rowB x a b c d)).sub k 2) ((Sl.app s (rowB x a b c d)).bool k 3) ((Sl.app s (rowB x a b c d)).sub k 4) (l.bool k 1) (l.sub k 2) (l.bool k 3) (l.sub k 4) := by
  have l1 : (rowB x a b c d).len = 1 := rfl
  refine ⟨by rw [len_app, l1, hs], fun k k0 k1 => ?_⟩
  by_cases e : k < i
  · rw [int_app_lt k0 (by omega), bool_app_lt k0 (by omega), bool_app_lt k0 (by omega), sub_app_lt k0 (by omega), sub_app_lt k0 (by omega)]
    exact h k k0 e
  · have : k = i := by omega
    subst this
    rw [int_app_ge (by omega), bool_app_ge (by omega), bool_app_ge (by omega), sub_app_ge (by omega), sub_app_ge (by omega), hs, Int.sub_self]
    exact ⟨hx, hf⟩

theorem copy_step {l : Sl} (hl : fitsB l) {s : Sl} {i : Int} (i0 : 0 ≤ i) (i1 : i < l.len) (hs : s.len = i) (h : ∀ k : Int, 0 ≤ k → k < i → s.int k 0 = l.int k 0 ∧ sameF (s.bool k 1) (s.sub k 2) (s.bool k 3) (s.sub k 4) (l.bool k 1) (l.sub k 2) (l.bool k 3) (l.sub k 4))
    {a c : Bool} {b d : Sl} (hf : q_kCopyFrac (l.bool i 1) (l.sub i 2) (l.bool i 3) (l.sub i 4) a b c d) :
    (s.len + (rowB (l.int i 0) a b c d).len) * 72 ≤ 140737488355328 ∧ Rng .i64 (i + 1) ∧ ((0 ≤ i + 1 ∧ i + 1 ≤ l.len ∧ (Sl.app s (rowB (l.int i 0) a b c d)).len = i + 1 ∧ ∀ k : Int, 0 ≤ k → k < i + 1 → (Sl.app s (rowB (l.int i 0) a b c d)).int k 0 = l.int k 0 ∧ sameF ((Sl.app s (rowB (l.int i 0) a b c d)).bool k 1) ((Sl.app s (rowB (l.int i 0) a b c d)).sub k 2) ((Sl.app s (rowB (l.int i 0) a b c d)).bool k 3) ((Sl.app s (rowB (l.int i 0) a b c d)).sub k 4) (l.bool k 1) (l.sub k 2) (l.bool k 3) (l.sub k 4)) ∧
      (l.len - (i + 1)).toNat < (l.len - i).toNat) := by
  have l1 : (rowB (l.int i 0) a b c d).len = 1 := rfl
  have l30 := hl.1
  have st := sameB_to (x := l.int i 0) (a := a) (b := b) (c := c) (d := d) i0 hs h rfl ⟨⟨hf.1, hf.2.1⟩, hf.2.2.1, hf.2.2.2⟩
  rw [l1]
  exact ⟨by omega, by rw [rng64]; omega, ⟨by omega, by omega, st.1, st.2⟩, by omega⟩

theorem fits_lim {l : Sl} (hl : fitsB l) {i : Int} (i0 : 0 ≤ i) (i1 : i < l.len) : Lim (l.sub i 2) ∧ Lim (l.sub i 4) := by
  have := hl.2 i i0 i1
  have a := len0 (l.sub i 2)
  have b := len0 (l.sub i 4)
  unfold Lim
  exact ⟨by omega, by omega⟩

theorem given_ok : V_given := by
  intro l _ hp
  simp only [Bool.decide_eq_true]
  have hp : fitsB l := hp
  have l0 := len0 l
  refine ⟨fun s i => 0 ≤ i ∧ i ≤ l.len ∧ s.len = i ∧ ∀ k : Int, 0 ≤ k → k < i → s.int k 0 = l.int k 0 ∧ sameF (s.bool k 1) (s.sub k 2) (s.bool k 3) (s.sub k 4) (l.bool k 1) (l.sub k 2) (l.bool k 3) (l.sub k 4), fun _ i => (l.len - i).toNat, ⟨by omega, l0, rfl, fun k _ _ => by omega⟩, fun s _ i _ hJ _ => ?_⟩
  obtain ⟨i0, i1, hs, hk⟩ := hJ
  refine ⟨fun hi => ⟨i0, hi, fun _ => ⟨i0, hi, fun _ _ => ⟨fits_lim hp i0 hi, fun a b _ c d _ hf => copy_step hp i0 hi hs hk hf⟩⟩⟩, fun hi => ⟨⟨by omega, fun k k0 k1 => hk k k0 (by omega)⟩, trivial⟩⟩

theorem copied_ok : V_copied := by
  intro l _ hp _
  simp only [Bool.decide_eq_true]
  have hp : fitsB l := hp
  have l0 := len0 l
  have l30 := hp.1
  refine ⟨by rw [rng64]; omega, by decide, by omega, by omega, fun s i => 0 ≤ i ∧ i ≤ l.len ∧ s.len = i ∧ ∀ k : Int, 0 ≤ k → k < i → s.int k 0 = l.int k 0 ∧ sameF (s.bool k 1) (s.sub k 2) (s.bool k 3) (s.sub k 4) (l.bool k 1) (l.sub k 2) (l.bool k 3) (l.sub k 4), fun _ i => (l.len - i).toNat, ⟨by omega, l0, rfl, fun k _ _ => by omega⟩, fun s _ i _ hJ _ => ?_⟩
  obtain ⟨i0, i1, hs, hk⟩ := hJ
  refine ⟨fun hi => ⟨i0, hi, fun _ => ⟨i0, hi, fun _ _ => ⟨fits_lim hp i0 hi, fun a b _ c d _ hf => copy_step hp i0 hi hs hk hf⟩⟩⟩, fun hi => ⟨⟨by omega, fun k k0 k1 => hk k k0 (by omega)⟩, trivial⟩⟩

theorem tells_ok : V_tells := by
  intro l _ m _ A _ hp
  simp only [Bool.decide_eq_true]
  have hp : fitsB l := hp
  refine ⟨hp, fun s _ hs => ⟨hp, fun r _ hr => ⟨trivial, fun a b rb c d rd e _ h1 => ⟨trivial, fun a' b' rb' c' d' rd' e' _ h2 => ⟨trivial, fun x _ y _ h3 => ⟨trivial, fun x' _ y' _ h4 => ⟨trivial, fun v hv => ⟨trivial, fun v' hv' => ?_⟩⟩⟩⟩⟩⟩⟩⟩
  have hs : sameB s l := hs
  have hr : sameB r l := hr
  have sr : sameB s r := hs.trans hr.symm
  have sv := sr.valid_iff
  have e1 : (v = true) ↔ (v' = true) := hv.trans (sv.trans hv'.symm)
  have f1 : sameF a b c d a' b' c' d' ∧ e = e' := by
    by_cases k : validS s ∧ amt A
    · have q1 := h1.1 k
      have q2 := h2.1 ⟨sv.1 k.1, k.2⟩
      rw [← sr.TT] at q2
      exact ⟨q1.1.same q2.1 (ranged16 rb) (ranged16 rd) (ranged16 rb') (ranged16 rd'), by rw [q1.2.2, q2.2.2]⟩
    · have q1 := h1.2 k
      have q2 := h2.2 fun k' => k ⟨sv.2 k'.1, k'.2⟩
      exact ⟨zero_same q1.1 q2.1, by rw [q1.2, q2.2]⟩
  have f2 : x = x' ∧ y = y' := by
    by_cases k : validS s ∧ (1 ≤ m ∧ m ≤ 12) ∧ amt A
    · have q1 := h3.1 k
      have q2 := h4.1 ⟨sv.1 k.1, k.2⟩
      rw [← sr.TT] at q2
      exact ⟨by rw [q1.1, q2.1], by rw [q1.2, q2.2]⟩
    · have q1 := h3.2 k
      have q2 := h4.2 fun k' => k ⟨sv.2 k'.1, k'.2⟩
      exact ⟨by rw [q1.1, q2.1], by rw [q1.2, q2.2]⟩
  refine ⟨fun _ => ⟨trivial, fun u hu => ⟨fun _ => ⟨fun _ => ⟨fun _ => ⟨fun _ => ⟨trivial, fun t ht => ⟨ht.2 sr, trivial⟩⟩, fun k => absurd f2.2 k⟩, fun k => absurd f2.1 k⟩, fun k => absurd f1.2 k⟩, fun k => absurd (hu.2 f1.1) k⟩⟩, fun k => absurd e1 k⟩

theorem scales_ok : V_scales := by
  intro y _ _
  simp only [Bool.decide_eq_true]
  have l0 := len0 y
  refine ⟨fun s i => 0 ≤ i ∧ i ≤ y.len ∧ s.len = i ∧ ∀ k : Int, 0 ≤ k → k < i → s.int k 0 = y.int k 0 ∧ sameB (s.sub k 1) (y.sub k 1), fun _ i => (y.len - i).toNat, ⟨by omega, l0, rfl, fun k _ _ => by omega⟩, fun s _ i _ hJ sm => ?_⟩
  obtain ⟨i0, i1, hs, hk⟩ := hJ
  have no : (¬ (y.len ≤ 31 ∧ ∀ i : Int, 0 ≤ i → i < y.len → fitsB (y.sub i 1))) → q_scales y Sl.nil (decide False) ∧ True := fun n => ⟨⟨fun h => by simp at h, fun a b => absurd ⟨a, b⟩ n⟩, trivial⟩
  refine ⟨fun hi => ⟨fun h30 => no fun k => by omega, fun h30 => ⟨i0, hi, fun _ => ⟨trivial, fun v hv => ⟨fun k => no fun k' => k (hv.2 (k'.2 i i0 hi)), fun h => ⟨i0, hi, fun _ => ⟨i0, hi, fun _ => ⟨hv.1 (Classical.not_not.1 h), fun r _ hr => ?_⟩⟩⟩⟩⟩⟩⟩, fun hi => ⟨⟨fun _ => ⟨by omega, fun k k0 k1 => hk k k0 (by omega)⟩, fun _ _ => by simp⟩, trivial⟩⟩
  have l1 : (Sl.lit [[.int (y.int i 0), Sl.d r]]).len = 1 := rfl
  rw [l1]
  refine ⟨by omega, by rw [rng64]; omega, ⟨by omega, by omega, by rw [len_app, l1, hs], fun k k0 k1 => ?_⟩, by show (y.len - (i + 1)).toNat < (y.len - i).toNat; omega⟩
  by_cases e : k < i
  · rw [int_app_lt k0 (by omega), sub_app_lt k0 (by omega)]
    exact hk k k0 e
  · have : k = i := by omega
    subst this
    rw [int_app_ge (by omega), sub_app_ge (by omega), hs, Int.sub_self]
    exact ⟨rfl, hr⟩

end Go.Sx.N

namespace Go.Sx.N

theorem withholds_ok : V_withholds := by
  intro y _ z _ mo _ g _ t _ pays _ hp
  have hs : sameY z y := hp.1
  have l60 := hp.2
  have l0 := len0 pays
  refine ⟨fun i a b c a' b' c' => 0 ≤ i ∧ i ≤ pays.len ∧ a = a' ∧ b = b' ∧ c = c', fun i _ _ _ _ _ _ => (pays.len - i).toNat, ⟨by omega, l0, rfl, rfl, rfl⟩, fun i _ a _ b _ c _ a' _ b' _ c' _ hJ _ => ?_⟩
  obtain ⟨i0, i1, rfl, rfl, rfl⟩ := hJ
  refine ⟨fun hi => ⟨i0, hi, fun _ => ⟨i0, hi, fun _ => ⟨⟨trivial, fun r _ m1 _ g1 _ t1 _ e1 _ h1 => ⟨i0, hi, fun _ => ⟨i0, hi, fun _ => ⟨⟨trivial, fun r2 _ m2 _ g2 _ t2 _ e2 _ h2 => ?_⟩, trivial, fun r2 _ m2 _ g2 _ t2 _ e2 _ h2 => ?_⟩⟩⟩⟩, trivial, fun r _ m1 _ g1 _ t1 _ e1 _ h1 => ⟨i0, hi, fun _ => ⟨i0, hi, fun _ => ⟨⟨trivial, fun r2 _ m2 _ g2 _ t2 _ e2 _ h2 => ?_⟩, trivial, fun r2 _ m2 _ g2 _ t2 _ e2 _ h2 => ?_⟩⟩⟩⟩⟩⟩, fun hi => ⟨rfl, trivial⟩⟩
  all_goals
    have h1 : held y a b c (IntKind.wrap .i64 (a + pays.int i 0)) (pays.int i 1) r m1 g1 t1 e1 := h1
    have h2 : held z a b c (IntKind.wrap .i64 (a + pays.int i 0)) (pays.int i 1) r2 m2 g2 t2 e2 := h2
    obtain ⟨q1, q2, q3, q4, q5⟩ := held_same hs h1 h2
    have w : IntKind.wrap .i64 (i + 1) = i + 1 := wrap_id .i64 _ (by show (-9223372036854775808 : Int) ≤ _ ∧ _ ≤ (9223372036854775807 : Int); omega)
    have ms : (pays.len - (i + 1)).toNat < (pays.len - i).toNat := by omega
    rw [w]
    exact ⟨fun k => absurd q1 k, fun _ => ⟨fun k => absurd q5 k, fun _ => ⟨fun k => absurd q2 k, fun _ => ⟨fun k => absurd q3 k, fun _ => ⟨fun k => absurd q4 k, fun _ => ⟨fun _ => ⟨⟨by omega, by omega, q2, q3, q4⟩, ms⟩, fun _ => ⟨⟨by omega, by omega, rfl, rfl, rfl⟩, ms⟩⟩⟩⟩⟩⟩⟩

theorem floor_eq {q : Rat} {k : Int} (h : (k : Rat) ≤ q) (g : q < ((k + 1 : Int) : Rat)) : q.floor = k := by
  have h1 := Rat.le_floor_iff.2 h
  have h2 := Rat.floor_le q
  have h3 : ((q.floor : Int) : Rat) < ((k + 1 : Int) : Rat) := by grind
  have h4 := Rat.intCast_lt_intCast.1 h3
  omega

section
variable {l : Sl}
theorem ex_ok (h : q_example l) : validS l ∧ rq l 0 = 1 / 10 ∧ rq l 1 = 3 / 10 := by
  obtain ⟨h0, ⟨f0, q0, a0, b0⟩, f1, q1, a1, b1⟩ := h
  have e0 : rq l 0 = 1 / 10 := by unfold rq; rw [q0.fq, Rat.divInt_eq_div]; rfl
  have e1 : rq l 1 = 3 / 10 := by unfold rq; rw [q1.fq, Rat.divInt_eq_div]; rfl
  have d0 : (rq l 0).den ≤ 10 := by unfold rq; rw [q0.fq]; exact divInt_den_le (n := 1) (d := 10) (by decide)
  have d1 : (rq l 1).den ≤ 10 := by unfold rq; rw [q1.fq]; exact divInt_den_le (n := 3) (d := 10) (by decide)
  refine ⟨⟨by omega, fun i i0 i1 => ?_, fun i i0 i1 => ?_⟩, e0, e1⟩
  · rcases (show i = 0 ∨ i = 1 by omega) with rfl | rfl
    · exact ⟨by rw [f0]; decide, ⟨q0.lowF, by omega, by omega⟩, by show 0 ≤ rq l 0; rw [e0]; grind, by show rq l 0 ≤ 1; rw [e0]; grind, by show ((rq l 0).den : Int) ≤ 1000000; omega⟩
    · exact ⟨by rw [f1]; decide, ⟨q1.lowF, by omega, by omega⟩, by show 0 ≤ rq l 1; rw [e1]; grind, by show rq l 1 ≤ 1; rw [e1]; grind, by show ((rq l 1).den : Int) ≤ 1000000; omega⟩
  · have : i = 1 := by omega
    subst this
    exact ⟨by show l.int 0 0 < l.int 1 0; rw [f0, f1]; decide, by show rq l 0 ≤ rq l 1; rw [e0, e1]; grind⟩
theorem ex_TT (h : q_example l) (m A : Int) {x y : Int} (hx : PI l m A 0 = x) (hy : PI l m A 1 = y) : TT l m A = ((x : Rat) * (1 / 10) + (y : Rat) * (2 / 10)) / 12 := by
  have e := (ex_ok h).2
  have hl : l.len.toNat = 2 := by rw [h.1]; rfl
  have t : TN l m A 2 = 0 + (PI l m A 0 : Rat) * (rq l 0 - rp l 0) + (PI l m A 1 : Rat) * (rq l 1 - rp l 1) := rfl
  have r0 : rp l 0 = 0 := if_pos rfl
  have r1 : rp l 1 = rq l 0 := by unfold rp; rw [if_neg (by decide)]; rfl
  unfold TT
  rw [hl, t, r0, r1, e.1, e.2, hx, hy]
  grind
theorem ex_PI (h : q_example l) (m A : Int) : PI l m A 0 = (if 12 * A - 1000 * m ≤ 0 then 0 else 12 * A - 1000 * m) ∧ PI l m A 1 = (if 12 * A - 2000 * m ≤ 0 then 0 else 12 * A - 2000 * m) := by
  unfold PI
  rw [h.2.1.1, h.2.2.1]
  exact ⟨rfl, rfl⟩
theorem ex1 (h : q_example l) : TT l 12 2500 = ((250 : Int) : Rat) := by
  rw [ex_TT h 12 2500 (x := 18000) (y := 6000) ((ex_PI h _ _).1.trans (by decide)) ((ex_PI h _ _).2.trans (by decide))]
  rw [show ((18000 : Int) : Rat) = 18000 from rfl, show ((6000 : Int) : Rat) = 6000 from rfl, show ((250 : Int) : Rat) = 250 from rfl]
  grind
theorem ex2 (h : q_example l) : TT l 12 999 = ((0 : Int) : Rat) := by
  rw [ex_TT h 12 999 (x := 0) (y := 0) ((ex_PI h _ _).1.trans (by decide)) ((ex_PI h _ _).2.trans (by decide))]
  rw [show ((0 : Int) : Rat) = 0 from rfl]
  grind
theorem ex3 (h : q_example l) : TT l 6 1250 = ((125 : Int) : Rat) := by
  rw [ex_TT h 6 1250 (x := 9000) (y := 3000) ((ex_PI h _ _).1.trans (by decide)) ((ex_PI h _ _).2.trans (by decide))]
  rw [show ((9000 : Int) : Rat) = 9000 from rfl, show ((3000 : Int) : Rat) = 3000 from rfl, show ((125 : Int) : Rat) = 125 from rfl]
  grind
theorem ex4 (h : q_example l) : (TT l 1 100).floor = 1 := by
  rw [ex_TT h 1 100 (x := 200) (y := 0) ((ex_PI h _ _).1.trans (by decide)) ((ex_PI h _ _).2.trans (by decide))]
  rw [show ((200 : Int) : Rat) = 200 from rfl, show ((0 : Int) : Rat) = 0 from rfl]
  refine floor_eq ?_ ?_
  · rw [show ((1 : Int) : Rat) = 1 from rfl]; grind
  · rw [show ((1 + 1 : Int) : Rat) = 2 from rfl]; grind
theorem ex5 (h : q_example l) : (TT l 2 100).floor = 0 := by
  rw [ex_TT h 2 100 (x := 0) (y := 0) ((ex_PI h _ _).1.trans (by decide)) ((ex_PI h _ _).2.trans (by decide))]
  have : (((0 : Int) : Rat) * (1 / 10) + ((0 : Int) : Rat) * (2 / 10)) / 12 = ((0 : Int) : Rat) := by rw [show ((0 : Int) : Rat) = 0 from rfl]; grind
  rw [this]; exact Rat.floor_intCast 0
theorem ex6 (h : q_example l) : (TT l 3 600).floor = 55 := by
  rw [ex_TT h 3 600 (x := 4200) (y := 1200) ((ex_PI h _ _).1.trans (by decide)) ((ex_PI h _ _).2.trans (by decide))]
  have : (((4200 : Int) : Rat) * (1 / 10) + ((1200 : Int) : Rat) * (2 / 10)) / 12 = ((55 : Int) : Rat) := by
    rw [show ((4200 : Int) : Rat) = 4200 from rfl, show ((1200 : Int) : Rat) = 1200 from rfl, show ((55 : Int) : Rat) = 55 from rfl]; grind
  rw [this]; exact Rat.floor_intCast 55
end

/-- One scale from a year on. -/
def year1 (x : Int) (l : Sl) : Sl := Sl.lit [[.int x, Sl.d l]]
theorem year1_valid {x : Int} {l : Sl} (h : validS l) : validY (year1 x l) := by
  have e : (year1 x l).len = 1 := rfl
  refine ⟨fun i i0 i1 => ?_, fun i i0 i1 => by omega⟩
  have : i = 0 := by omega
  subst this
  exact h
theorem year1_appl {x year : Int} {l : Sl} (h : x ≤ year) : Appl (year1 x l) year 0 := by
  have e : (year1 x l).len = 1 := rfl
  exact ⟨by omega, by omega, h, fun j j0 j1 => by omega⟩
theorem year1_sub {x : Int} {l : Sl} : (year1 x l).sub 0 1 = l := rfl

theorem awake_ok : V_awake := by
  intro _
  simp only [Bool.decide_eq_true]
  refine ⟨trivial, fun l _ h => ⟨trivial, fun a b rb c d rd e1 _ h1 => ⟨trivial, fun a2 b2 rb2 c2 d2 rd2 e2 _ h2 => ⟨trivial, fun x1 _ e3 _ h3 => ⟨trivial, fun x2 _ e4 _ h4 => ⟨trivial, fun r1 _ m1 _ g1 _ t1 _ e5 _ h5 => ⟨trivial, fun r2 _ m2 _ g2 _ t2 _ e6 _ h6 => ?_⟩⟩⟩⟩⟩⟩⟩
  have v := (ex_ok h).1
  obtain ⟨q1, _, z1⟩ := h1.1 ⟨v, by decide, by decide⟩
  obtain ⟨q2, _, z2⟩ := h2.1 ⟨v, by decide, by decide⟩
  obtain ⟨p3, z3⟩ := h3.1 ⟨v, by decide, by decide, by decide⟩
  obtain ⟨p4, z4⟩ := h4.1 ⟨v, by decide, by decide, by decide⟩
  rw [ex1 h] at q1
  rw [ex2 h] at q2
  rw [ex3 h, Rat.floor_intCast] at p3
  rw [ex4 h] at p4
  have h5 : held (year1 1900 l) 0 0 0 1 100 r1 m1 g1 t1 e5 := h5
  have a5 := ((h5.2 ⟨year1_valid v, by decide, by unfold amt; decide, by decide, by decide, by unfold amt; decide⟩).2 0 (year1_appl (by decide))).2 (by decide)
  obtain ⟨c1, c2, c3, c4, z5⟩ := a5
  have c2 : g1 = 100 := c2
  have c1 : m1 = 1 := c1
  subst c1 c2
  have c3 : t1 = (TT l 2 100).floor := c3
  rw [ex5 h] at c3
  subst c3
  have c4 : r1 = 0 := c4
  have h6 : held (year1 1900 l) 1 100 0 2 500 r2 m2 g2 t2 e6 := h6
  have a6 := ((h6.2 ⟨year1_valid v, by decide, by unfold amt; decide, by decide, by decide, by unfold amt; decide⟩).2 0 (year1_appl (by decide))).2 (by decide)
  obtain ⟨k1, k2, k3, k4, z6⟩ := a6
  have k2 : g2 = 600 := k2
  have k1 : m2 = 2 := k1
  subst k1 k2
  have k3 : t2 = (TT l 3 600).floor := k3
  rw [ex6 h] at k3
  subst k3
  have k4 : r2 = 55 := k4
  subst z1 z2 z3 z4 z5 z6 p3 p4 c4 k4
  refine ⟨by rw [rng64]; decide, by rw [rng64]; decide, by rw [rng64]; decide, by rw [rng64]; decide, by rw [rng64]; decide, fun _ => ⟨trivial, fun n s rs n' s' rs' g => ⟨trivial, fun u hu => ⟨fun _ => ⟨trivial, fun n2 s2 rs2 n2' s2' rs2' g2 => ⟨trivial, fun u2 hu2 => ⟨fun _ => ?_, fun k => ?_⟩⟩⟩, fun k => ?_⟩⟩⟩, fun k => absurd (by decide) k⟩
  · exact ⟨fun _ => ⟨fun _ => ⟨fun _ => ⟨fun _ => ⟨fun _ => ⟨rfl, trivial⟩, fun k => absurd rfl k⟩, fun k => absurd ⟨rfl, rfl, rfl⟩ k⟩, fun k => absurd rfl k⟩, fun k => absurd rfl k⟩, fun k => absurd rfl k⟩
  · exact absurd (hu2.2 (q2.same g2.1 (ranged16 rb2) (ranged16 rd2) (ranged16 rs2) (ranged16 rs2'))) k
  · exact absurd (hu.2 (q1.same g.1 (ranged16 rb) (ranged16 rd) (ranged16 rs) (ranged16 rs'))) k

theorem xWithhold_ok : V_xWithhold := by
  intro y _ mo _ g _ t _ month _ gross _ _
  have no : ¬ okP6 y mo g t month gross → q_xWithhold y mo g t month gross 0 0 0 0 2 ∧ True := fun h => ⟨held_bad h, trivial⟩
  refine ⟨fun a => no fun k => ?_, fun a1 => ⟨fun a => no fun k => ?_, fun a2 => ⟨fun a => no fun k => ?_, fun a3 => ⟨fun a => no fun k => ?_, fun a4 => ⟨fun a => no fun k => ?_, fun a5 => ⟨fun a => no fun k => ?_, fun a6 => ⟨fun a => no fun k => ?_, fun a7 => ⟨fun a => no fun k => ?_, fun a8 => ⟨fun a => no fun k => ?_, fun a9 => ⟨fun a => no fun k => ?_, fun a10 => ?_⟩⟩⟩⟩⟩⟩⟩⟩⟩⟩
  all_goals try (obtain ⟨_, ⟨_, _⟩, ⟨_, _⟩, ⟨_, _⟩, ⟨_, _⟩, ⟨_, _⟩⟩ := k; omega)
  have okv : validY y → okP6 y mo g t month gross := fun vy => ⟨vy, ⟨by omega, by omega⟩, ⟨by omega, by omega⟩, ⟨by omega, by omega⟩, ⟨by omega, by omega⟩, ⟨by omega, by omega⟩⟩
  rw [tdiv12 (by omega : 0 ≤ month), tdiv12 (by omega : 0 ≤ mo), tmod12 (by omega : 0 ≤ month)]
  refine ⟨by decide, by rw [rng64]; omega, by rw [rng64]; omega, trivial, fun s _ e _ hq => ⟨fun he => ?_, fun he => ?_⟩⟩
  · by_cases vy : validY y
    · rcases appl_or y (1900 + month / 12) with hn | ⟨i, hi⟩
      · have := (hq.2.1 vy hn).2
        rw [this]; exact ⟨held_none (okv vy) hn, trivial⟩
      · exact absurd (hq.2.2 vy i hi).2 he
    · have := (hq.1 vy).2
      rw [this]; exact no fun k => vy k.1
  have he : e = 0 := Classical.not_not.1 he
  have k1 : validY y := Classical.byContradiction fun h => by have := (hq.1 h).2; omega
  have ok := okv k1
  obtain ⟨i, hi⟩ : ∃ i, Appl y (1900 + month / 12) i := (appl_or y (1900 + month / 12)).resolve_left fun hn => by have := (hq.2.1 k1 hn).2; omega
  have es := (hq.2.2 k1 i hi).1
  subst es
  have vs := hi.validS k1
  have tail : ∀ g' t1 : Int, g' = goes mo month g + gross → t1 = goes mo month t → -1099511627776 ≤ t1 → t1 ≤ 1099511627776 → 0 ≤ g' →
      ((g' > 1099511627776 → q_xWithhold y mo g t month gross 0 0 0 0 3 ∧ True) ∧ (¬ (g' > 1099511627776) → ((12 : Int) ≠ 0) ∧ Rng .i64 (month % 12) ∧ Rng .i64 (month % 12 + 1) ∧ p_xDue (y.sub i 1) (month % 12 + 1) g' ∧
        ∀ x : Int, Rng .i64 x → ∀ e : Int, Rng .i64 e → q_xDue (y.sub i 1) (month % 12 + 1) g' x e → Rng .i64 (x - t1) ∧ q_xWithhold y mo g t month gross (x - t1) month g' x 0 ∧ True)) := by
    intro g' t1 eg et b1 b2 b3
    refine ⟨fun hg => ⟨held_long ok hi (by omega), trivial⟩, fun hg => ⟨by decide, by rw [rng64]; omega, by rw [rng64]; omega, trivial, fun x _ e _ hq => ?_⟩⟩
    have q := hq.1 ⟨vs, ⟨by omega, by omega⟩, ⟨by omega, by omega⟩⟩
    have rg := TT_range (l := y.sub i 1) (m := month % 12 + 1) (A := g') vs ⟨by omega, by omega⟩ ⟨by omega, by omega⟩
    exact ⟨by rw [rng64]; omega, held_good ok hi (by omega) eg q.1 (by rw [et]), trivial⟩
  refine ⟨by decide, by rw [rng64]; omega, by decide, by rw [rng64]; omega, fun hne => ⟨by rw [rng64]; omega, ?_⟩, fun hee => ⟨by rw [rng64]; omega, ?_⟩⟩
  · have e1 : goes mo month g = 0 := by unfold goes; rw [if_neg (by omega)]
    have e2 : goes mo month t = 0 := by unfold goes; rw [if_neg (by omega)]
    exact tail (0 + gross) 0 (by rw [e1]) e2.symm (by omega) (by omega) (by omega)
  · have e1 : goes mo month g = g := by unfold goes; rw [if_pos (by omega)]
    have e2 : goes mo month t = t := by unfold goes; rw [if_pos (by omega)]
    exact tail (g + gross) t (by rw [e1]) e2.symm (by omega) (by omega) (by omega)

end Go.Sx.N

namespace Go.Sx.N

section
variable {l : Sl}
theorem TN_le (v : validS l) {m A m' A' c : Int} (hc : 0 ≤ c) (h : ∀ i : Int, 0 ≤ i → i < l.len → PI l m A i ≤ PI l m' A' i + c) : ∀ n : Nat, (n : Int) ≤ l.len → TN l m A n ≤ TN l m' A' n + (c : Rat) * rp l n
  | 0, _ => by
    have e : rp l ((0 : Nat) : Int) = 0 := rfl
    rw [e]; simp only [TN]; grind
  | n + 1, hn => by
    have ih := TN_le v hc h n (by omega)
    have d := v.rd (i := n) (by omega) (by omega)
    have p : ((PI l m A n : Int) : Rat) ≤ (PI l m' A' n : Rat) + (c : Rat) := by
      rw [← Rat.intCast_add]; exact Rat.intCast_le_intCast.2 (h n (by omega) (by omega))
    have q := Rat.mul_le_mul_of_nonneg_right p d.1
    rw [rp_succ]
    simp only [TN]
    grind
theorem rp_end (v : validS l) {n : Nat} (h : (n : Int) ≤ l.len) : 0 ≤ rp l n ∧ rp l n ≤ 1 := by
  cases n with
  | zero => exact ⟨by show (0 : Rat) ≤ 0; exact Rat.le_refl, by show (0 : Rat) ≤ 1; grind⟩
  | succ n =>
    rw [rp_succ]
    have b := (v.at (i := n) (by omega) (by omega)).2
    exact ⟨b.1, b.2.1⟩
theorem TT_le (v : validS l) {m A m' A' c : Int} (hc : 0 ≤ c) (h : ∀ i : Int, 0 ≤ i → i < l.len → PI l m A i ≤ PI l m' A' i + 12 * c) : TT l m A ≤ TT l m' A' + (c : Rat) := by
  have l0 := len0 l
  have k := TN_le v (c := 12 * c) (by omega) h l.len.toNat (by omega)
  have r := rp_end v (n := l.len.toNat) (by omega)
  have cc : (0 : Rat) ≤ (c : Rat) := Rat.intCast_le_intCast.2 hc
  have b := Rat.mul_le_mul_of_nonneg_left r.2 cc
  rw [Rat.intCast_mul, show ((12 : Int) : Rat) = 12 from rfl] at k
  unfold TT
  grind
theorem PI_zero (v : validS l) {m i : Int} (hm : 0 ≤ m) (h0 : 0 ≤ i) (h1 : i < l.len) : PI l m 0 i = 0 := by
  have b := (v.at h0 h1).1
  have p : 0 ≤ l.int i 0 * m := Int.mul_nonneg b.1 hm
  unfold PI
  rw [if_pos (by omega)]
theorem TN_zero (v : validS l) {m : Int} (hm : 0 ≤ m) : ∀ n : Nat, (n : Int) ≤ l.len → TN l m 0 n = 0
  | 0, _ => rfl
  | n + 1, hn => by
    simp only [TN]
    rw [TN_zero v hm n (by omega), PI_zero v hm (by omega) (by omega), show ((0 : Int) : Rat) = 0 from rfl]
    grind
theorem TT_zero (v : validS l) {m : Int} (hm : 0 ≤ m) : TT l m 0 = 0 := by
  have l0 := len0 l
  unfold TT
  rw [TN_zero v hm _ (by omega)]
  grind
theorem TT_income (v : validS l) {m A : Int} (hm : 0 ≤ m) (hA : 0 ≤ A) : TT l m A ≤ (A : Rat) := by
  have k := TT_le v (m := m) (A := A) (m' := m) (A' := 0) (c := A) hA fun i i0 i1 => by
    rw [PI_zero v hm i0 i1]
    have p : 0 ≤ l.int i 0 * m := Int.mul_nonneg (v.at i0 i1).1.1 hm
    unfold PI; split <;> omega
  rw [TT_zero v hm] at k
  grind
theorem TT_more (v : validS l) {m A B : Int} (h : A ≤ B) : TT l m A ≤ TT l m B := by
  have k := TT_le v (m := m) (A := A) (m' := m) (A' := B) (c := 0) (Int.le_refl _) fun i _ _ => by
    unfold PI; (repeat' split) <;> omega
  rw [show ((0 : Int) : Rat) = 0 from rfl] at k
  grind
theorem TT_lip (v : validS l) {m A b : Int} (h : 0 ≤ b) : TT l m (A + b) ≤ TT l m A + (b : Rat) :=
  TT_le v h fun i _ _ => by unfold PI; (repeat' split) <;> omega
theorem TT_month (v : validS l) {m m' A : Int} (h : m ≤ m') : TT l m' A ≤ TT l m A := by
  have k := TT_le v (m := m') (A := A) (m' := m) (A' := A) (c := 0) (Int.le_refl _) fun i i0 i1 => by
    have p : l.int i 0 * m ≤ l.int i 0 * m' := Int.mul_le_mul_of_nonneg_left h (v.at i0 i1).1.1
    unfold PI; (repeat' split) <;> omega
  rw [show ((0 : Int) : Rat) = 0 from rfl] at k
  grind
theorem TN_scale {m g : Int} (hm : 1 ≤ m) : ∀ n : Nat, TN l m (m * g) n = (m : Rat) * TN l 1 g n
  | 0 => by simp only [TN]; grind
  | n + 1 => by
    have e : PI l m (m * g) n = m * PI l 1 g n := by
      have e1 : 12 * (m * g) - l.int n 0 * m = m * (12 * g - l.int n 0 * 1) := by grind
      unfold PI
      rw [e1]
      by_cases h : 12 * g - l.int n 0 * 1 ≤ 0
      · have : m * (12 * g - l.int n 0 * 1) ≤ 0 := Int.mul_nonpos_of_nonneg_of_nonpos (by omega) h
        rw [if_pos h, if_pos this, Int.mul_zero]
      · have : 0 < m * (12 * g - l.int n 0 * 1) := Int.mul_pos (by omega) (by omega)
        rw [if_neg h, if_neg (by omega)]
    simp only [TN]
    rw [TN_scale hm n, e, Rat.intCast_mul]
    grind
theorem TT_scale {m g : Int} (hm : 1 ≤ m) : TT l m (m * g) = (m : Rat) * TT l 1 g := by
  unfold TT
  rw [TN_scale hm]
  grind
theorem due_bounds (v : validS l) {m A : Int} (hm : 1 ≤ m ∧ m ≤ 12) (hA : amt A) : 0 ≤ (TT l m A).floor ∧ (TT l m A).floor ≤ A := by
  have b := TT_range (l := l) v hm hA
  have k := Rat.floor_monotone (TT_income v (m := m) (A := A) (by omega) hA.1)
  rw [Rat.floor_intCast] at k
  exact ⟨b.1, k⟩
end
theorem floor_add (a b : Rat) : a.floor + b.floor ≤ (a + b).floor ∧ (a + b).floor ≤ a.floor + b.floor + 1 := by
  have a1 := Rat.floor_le a
  have a2 := Rat.lt_floor_add_one a
  have b1 := Rat.floor_le b
  have b2 := Rat.lt_floor_add_one b
  rw [Rat.intCast_add, show ((1 : Int) : Rat) = 1 from rfl] at a2 b2
  constructor
  · refine Rat.le_floor_iff.2 ?_
    rw [Rat.intCast_add]; grind
  · have c1 := Rat.floor_le (a + b)
    have h : (((a + b).floor : Int) : Rat) < ((a.floor + b.floor + 2 : Int) : Rat) := by
      rw [Rat.intCast_add, Rat.intCast_add, show ((2 : Int) : Rat) = 2 from rfl]; grind
    have := Rat.intCast_lt_intCast.1 h
    omega
theorem floor_lip {a b : Rat} {k : Int} (h : a ≤ b + (k : Rat)) : a.floor ≤ b.floor + k := by
  have c1 := Rat.floor_le a
  have b2 := Rat.lt_floor_add_one b
  have h3 : ((a.floor : Int) : Rat) < ((b.floor + k + 1 : Int) : Rat) := by
    rw [Rat.intCast_add, Rat.intCast_add]
    rw [Rat.intCast_add] at b2
    grind
  have := Rat.intCast_lt_intCast.1 h3
  omega

end Go.Sx.N
