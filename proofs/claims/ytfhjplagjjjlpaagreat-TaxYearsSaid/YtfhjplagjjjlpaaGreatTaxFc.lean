/-
 Scales that are the same, and copies of them. Conditions: none.
 Conditions of the statements' helpers. Conditions: none.
 Conditions of the payments' comparison, of the examples, and of the scale of a year. Conditions: none.
 The tax as a function of the income and the month. Conditions: none.
-/
import Derived.Test.YtfhjplagjjjlpaaGreatNumVL
import Derived.Test.YtfhjplagjjjlpaaGreatTaxFb
set_option linter.unusedVariables false
set_option linter.unusedSimpArgs false
namespace Go.Sx.N
theorem sameF.symm {a c a' c' : Bool} {b d b' d' : Sl} (h : sameF a b c d a' b' c' d') : sameF a' b' c' d' a b c d := ⟨⟨h.1.1.symm, h.1.2.symm⟩, h.2.1.symm, h.2.2.symm⟩
theorem sameF.fq {a c a' c' : Bool} {b d b' d' : Sl} (h : sameF a b c d a' b' c' d') : fq a b d = fq a' b' d' := by
 have e1 : vl b = vl b' := h.1.2.val 65536
 have e2 : vl d = vl d' := h.2.2.val 65536
 unfold N.fq zv
 rw [e1, e2, h.1.1]
theorem sameF.ok {a c a' c' : Bool} {b d b' d' : Sl} (h : sameF a b c d a' b' c' d') (o : okF a b c d) : okF a' b' c' d' := by
 have q := o.isQ.of_same h.1.1.symm h.1.2.symm h.2.1.symm h.2.2.symm
 exact ⟨q.lowF, by have := h.1.2.1; have := o.2.1; omega, by have := h.2.2.1; have := o.2.2; omega⟩
theorem sameF.okR {a c a' c' : Bool} {b d b' d' : Sl} (h : sameF a b c d a' b' c' d') (o : okR a b c d) : okR a' b' c' d' := by
 have e := h.fq
 refine ⟨h.ok o.1, ?_⟩
 rw [<- e]; exact o.2
theorem sameB.symm {l m : Sl} (h : sameB l m) : sameB m l := ⟨h.1.symm, fun i i0 i1 => have k := h.2 i i0 (by rw [h.1]; exact i1); ⟨k.1.symm, k.2.symm⟩⟩
theorem sameF.trans {a c a' c' a2 c2 : Bool} {b d b' d' b2 d2 : Sl} (h : sameF a b c d a' b' c' d') (g : sameF a' b' c' d' a2 b2 c2 d2) : sameF a b c d a2 b2 c2 d2 :=
 ⟨⟨h.1.1.trans g.1.1, h.1.2.trans g.1.2⟩, h.2.1.trans g.2.1, h.2.2.trans g.2.2⟩
theorem sameB.trans {l m k : Sl} (h : sameB l m) (g : sameB m k) : sameB l k :=
 ⟨h.1.trans g.1, fun i i0 i1 => have a := h.2 i i0 i1; have b := g.2 i i0 (by rw [<- h.1]; exact i1); ⟨a.1.trans b.1, a.2.trans b.2⟩⟩
theorem sameB.refl (l : Sl) : sameB l l := ⟨rfl, fun _ _ _ => ⟨rfl, ⟨rfl, SameI.refl _⟩, rfl, SameI.refl _⟩⟩
theorem sameB.rq {l m : Sl} (h : sameB l m) {i : Int} (i0 : 0 <= i) (i1 : i < l.len) : rq l i = rq m i := (h.2 i i0 i1).2.fq
theorem sameB.valid {l m : Sl} (h : sameB l m) (v : validS l) : validS m := by
 obtain ⟨v1, v2, v3⟩ := v
 have e := h.1
 refine ⟨by omega, fun i i0 i1 => ?_, fun i i0 i1 => ?_⟩
 ·have k := h.2 i i0 (by omega)
  have b := v2 i i0 (by omega)
  exact ⟨by rw [<- k.1]; exact b.1, k.2.okR b.2⟩
 ·have k := h.2 i (by omega) (by omega)
  have k' := h.2 (i - 1) (by omega) (by omega)
  have p := v3 i i0 (by omega)
  exact ⟨by rw [<- k.1, <- k'.1]; exact p.1, by rw [<- h.rq (i := i) (by omega) (by omega), <- h.rq (i := i - 1) (by omega) (by omega)]; exact p.2⟩
theorem sameB.TN {l m : Sl} (h : sameB l m) (k A : Int) : ∀ n : Nat, (n : Int) <= l.len -> TN l k A n = TN m k A n
 | 0, _ => rfl
 | n + 1, hn => by
  have ih := h.TN k A n (by omega)
  have e1 := (h.2 n (by omega) (by omega)).1
  have e2 := h.rq (i := n) (by omega) (by omega)
  have e3 : rp l n = rp m n := by
   unfold rp
   by_cases e : (n : Int) = 0
   ·rw [if_pos e, if_pos e]
   ·rw [if_neg e, if_neg e]; exact h.rq (by omega) (by omega)
  simp only [N.TN]
  rw [ih, e2, e3]
  unfold PI
  rw [e1]
theorem sameB.TT {l m : Sl} (h : sameB l m) (k A : Int) : TT l k A = TT m k A := by
 unfold N.TT
 have l0 := len0 l
 rw [h.TN k A _ (by omega), h.1]
theorem sameY.symm {y z : Sl} (h : sameY y z) : sameY z y := ⟨h.1.symm, fun i i0 i1 => have k := h.2 i i0 (by rw [h.1]; exact i1); ⟨k.1.symm, k.2.symm⟩⟩
theorem sameY.valid {y z : Sl} (h : sameY y z) (v : validY y) : validY z := by
 have e := h.1
 refine ⟨fun i i0 i1 => (h.2 i i0 (by omega)).2.valid (v.1 i i0 (by omega)), fun i i0 i1 => ?_⟩
 rw [<- (h.2 i (by omega) (by omega)).1, <- (h.2 (i - 1) (by omega) (by omega)).1]
 exact v.2 i i0 (by omega)
theorem sameY.appl {y z : Sl} (h : sameY y z) {year i : Int} (a : Appl y year i) : Appl z year i := by
 have e := h.1
 refine ⟨a.1, by have := a.2.1; omega, by rw [<- (h.2 i a.1 a.2.1).1]; exact a.2.2.1, fun j j0 j1 => ?_⟩
 rw [<- (h.2 j (by have := a.1; omega) (by omega)).1]
 exact a.2.2.2 j j0 (by omega)
theorem sameY.no {y z : Sl} (h : sameY y z) {year : Int} (a : noAppl y year) : noAppl z year := fun j j0 j1 => by
 have e := h.1
 rw [<- (h.2 j j0 (by omega)).1]
 exact a j j0 (by omega)
theorem appl_or (y : Sl) (year : Int) : noAppl y year \/ ∃ i, Appl y year i := by
 have l0 := len0 y
 have key : ∀ n : Nat, (n : Int) <= y.len -> (∀ j : Int, (n : Int) <= j -> j < y.len -> year < y.int j 0) -> noAppl y year \/ ∃ i, Appl y year i := by
  intro n
  induction n with
  | zero => intro _ h; exact .inl fun j j0 j1 => h j (by omega) j1
  | succ n ih =>
   intro hn h
   by_cases e : y.int n 0 <= year
   ·exact .inr ⟨n, by omega, by omega, e, fun j j0 j1 => h j (by omega) j1⟩
   ·refine ih (by omega) fun j j0 j1 => ?_
    by_cases e' : j = n
    ·subst e'; omega
    ·exact h j (by omega) j1
 exact key y.len.toNat (by omega) fun j j0 j1 => by omega
theorem fits_ok : V_fits := by
 intro l rl _ sm
 have l0 := len0 l
 have no : ¬ fitsB l -> q_fits l (decide False) /\ True := fun h => ⟨by simp only [q_fits, decide_false, Bool.false_eq_true, false_iff]; exact h, trivial⟩
 refine ⟨fun h => no fun k => by have := k.1; omega, fun hl => ⟨fun i => 0 <= i /\ i <= l.len /\ ∀ k : Int, 0 <= k -> k < i -> (l.sub k 2).len + (l.sub k 4).len <= 600, fun i => (l.len - i).toNat, ⟨by omega, by omega, fun k _ _ => by omega⟩, fun i _ hJ _ => ?_⟩⟩
 obtain ⟨i0, i1, hk⟩ := hJ
 have body : i < l.len -> Small (l.sub i 2) -> Small (l.sub i 4) -> Rng .i64 ((l.sub i 2).len + (l.sub i 4).len) /\ (((l.sub i 2).len + (l.sub i 4).len > 600 -> q_fits l (decide False) /\ True) /\ (¬ ((l.sub i 2).len + (l.sub i 4).len > 600) ->
   Rng .i64 (i + 1) /\ ((0 <= i + 1 /\ i + 1 <= l.len /\ ∀ k : Int, 0 <= k -> k < i + 1 -> (l.sub k 2).len + (l.sub k 4).len <= 600) /\ (l.len - (i + 1)).toNat < (l.len - i).toNat))) := by
  intro hi s2 s4
  have b2 := len0 (l.sub i 2)
  have b4 := len0 (l.sub i 4)
  have m2 := small64 s2
  have m4 := small64 s4
  refine ⟨by rw [rng64]; omega, fun h => no fun k => ?_, fun h => ⟨by rw [rng64]; omega, ⟨by omega, by omega, ?_⟩, by omega⟩⟩
  ·have := k.2 i i0 hi; omega
  ·intro k k0 k1
   by_cases e : k = i
   ·subst e; omega
   ·exact hk k k0 (by omega)
 refine ⟨fun hi => ⟨i0, hi, i0, hi, ⟨fun _ => ⟨fun a _ b => body hi a b, fun _ => ⟨fun a b => body hi a b, fun b a => body hi a b⟩⟩, fun _ => ⟨fun _ => ⟨fun a b => body hi a b, fun b a => body hi a b⟩, fun b _ a => body hi a b⟩⟩⟩, fun hi => ⟨?_, trivial⟩⟩
 simp only [q_fits, decide_true, true_iff]
 exact ⟨by omega, fun k k0 k1 => hk k k0 (by omega)⟩
theorem example_ok : V_example := by
 intro _
 simp only [Bool.decide_eq_true]
 exact ⟨by show (10 : Int) ≠ 0; decide, fun a b _ c d _ h => ⟨by show (10 : Int) ≠ 0; decide, fun a' b' _ c' d' _ g => ⟨⟨rfl, ⟨rfl, h⟩, rfl, g⟩, trivial⟩⟩⟩
theorem same_ok : V_same := by
 intro l _ m _ _ sm sm'
 simp only [Bool.decide_eq_true]
 have l0 := len0 l
 have no : ¬ sameB l m -> q_same l m (decide False) /\ True := fun h => ⟨by simp only [q_same, decide_false, Bool.false_eq_true, false_iff]; exact h, trivial⟩
 refine ⟨fun h => no fun k => h k.1, fun he => ⟨fun i => 0 <= i /\ i <= l.len /\ ∀ k : Int, 0 <= k -> k < i -> l.int k 0 = m.int k 0 /\ sameF (l.bool k 1) (l.sub k 2) (l.bool k 3) (l.sub k 4) (m.bool k 1) (m.sub k 2) (m.bool k 3) (m.sub k 4), fun i => (l.len - i).toNat, ⟨by omega, by omega, fun k _ _ => by omega⟩, fun i _ hJ _ => ?_⟩⟩
 obtain ⟨i0, i1, hk⟩ := hJ
 have e : l.len = m.len := Classical.not_not.1 he
 have s64 := small64 sm
 have body : i < l.len -> l.int i 0 = m.int i 0 -> (p_kSameFrac (l.bool i 1) (l.sub i 2) (l.bool i 3) (l.sub i 4) (m.bool i 1) (m.sub i 2) (m.bool i 3) (m.sub i 4) /\ ∀ v : Bool, q_kSameFrac (l.bool i 1) (l.sub i 2) (l.bool i 3) (l.sub i 4) (m.bool i 1) (m.sub i 2) (m.bool i 3) (m.sub i 4) v ->
   ((¬ v = true -> q_same l m (decide False) /\ True) /\ (¬ ¬ v = true -> Rng .i64 (i + 1) /\ ((0 <= i + 1 /\ i + 1 <= l.len /\ ∀ k : Int, 0 <= k -> k < i + 1 -> l.int k 0 = m.int k 0 /\ sameF (l.bool k 1) (l.sub k 2) (l.bool k 3) (l.sub k 4) (m.bool k 1) (m.sub k 2) (m.bool k 3) (m.sub k 4)) /\ (l.len - (i + 1)).toNat < (l.len - i).toNat)))) := by
  intro hi h1
  refine ⟨trivial, fun v hv => ⟨fun h => no fun k => h (hv.2 (k.2 i i0 hi).2), fun h => ⟨by rw [rng64]; omega, ⟨by omega, by omega, ?_⟩, by omega⟩⟩⟩
  intro k k0 k1
  by_cases e : k = i
  ·subst e; exact ⟨h1, hv.1 (Classical.not_not.1 h)⟩
  ·exact hk k k0 (by omega)
 refine ⟨fun hi => ⟨i0, hi, fun _ => ⟨i0, by omega, fun _ => ⟨fun h => no fun k => h (k.2 i i0 hi).1, fun h => ⟨i0, hi, i0, by omega, ⟨fun _ _ _ _ => body hi (by omega), fun _ _ _ _ => body hi (by omega)⟩⟩⟩⟩⟩, fun hi => ⟨?_, trivial⟩⟩
 simp only [q_same, decide_true, true_iff]
 exact ⟨e, fun k k0 k1 => hk k k0 (by omega)⟩
end Go.Sx.N
namespace Go.Sx.N
theorem bool_app_lt {a b : Sl} {i : Int} {j : Nat} (h : 0 <= i) (h' : i < a.len) : (Sl.app a b).bool i j = a.bool i j := by
 have : i.toNat < a.n := by unfold Sl.len at h'; omega
 show D.toB (if i.toNat < a.n then a.f i.toNat j else b.f (i.toNat - a.n) j) = _
 rw [if_pos this]; rfl
theorem sub_app_lt {a b : Sl} {i : Int} {j : Nat} (h : 0 <= i) (h' : i < a.len) : (Sl.app a b).sub i j = a.sub i j := by
 have : i.toNat < a.n := by unfold Sl.len at h'; omega
 show D.toS (if i.toNat < a.n then a.f i.toNat j else b.f (i.toNat - a.n) j) = _
 rw [if_pos this]; rfl
theorem bool_app_ge {a b : Sl} {i : Int} {j : Nat} (h : a.len <= i) : (Sl.app a b).bool i j = b.bool (i - a.len) j := by
 have h0 := len0 a
 have : ¬ i.toNat < a.n := by unfold Sl.len at *; omega
 have e : (i - a.len).toNat = i.toNat - a.n := by unfold Sl.len at *; omega
 show D.toB (if i.toNat < a.n then a.f i.toNat j else b.f (i.toNat - a.n) j) = D.toB (b.f (i - a.len).toNat j)
 rw [if_neg this, e]
theorem sub_app_ge {a b : Sl} {i : Int} {j : Nat} (h : a.len <= i) : (Sl.app a b).sub i j = b.sub (i - a.len) j := by
 have h0 := len0 a
 have : ¬ i.toNat < a.n := by unfold Sl.len at *; omega
 have e : (i - a.len).toNat = i.toNat - a.n := by unfold Sl.len at *; omega
 show D.toS (if i.toNat < a.n then a.f i.toNat j else b.f (i.toNat - a.n) j) = D.toS (b.f (i - a.len).toNat j)
 rw [if_neg this, e]
def rowB (x : Int) (a : Bool) (b : Sl) (c : Bool) (d : Sl) : Sl := Sl.lit [[.int x, .bool a, Sl.d b, .bool c, Sl.d d]]
theorem sameB_to {s l : Sl} {i : Int} (i0 : 0 <= i) (hs : s.len = i) (h : ∀ k : Int, 0 <= k -> k < i -> s.int k 0 = l.int k 0 /\ sameF (s.bool k 1) (s.sub k 2) (s.bool k 3) (s.sub k 4) (l.bool k 1) (l.sub k 2) (l.bool k 3) (l.sub k 4))
  {x : Int} {a c : Bool} {b d : Sl} (hx : x = l.int i 0) (hf : sameF a b c d (l.bool i 1) (l.sub i 2) (l.bool i 3) (l.sub i 4)) :
  (Sl.app s (rowB x a b c d)).len = i + 1 /\ ∀ k : Int, 0 <= k -> k < i + 1 -> (Sl.app s (rowB x a b c d)).int k 0 = l.int k 0 /\ sameF ((Sl.app s (rowB x a b c d)).bool k 1) ((Sl.app s (rowB x a b c d)).sub k 2) ((Sl.app s (rowB x a b c d)).bool k 3) ((Sl.app s (rowB x a b c d)).sub k 4) (l.bool k 1) (l.sub k 2) (l.bool k 3) (l.sub k 4) := by
 have l1 : (rowB x a b c d).len = 1 := rfl
 refine ⟨by rw [len_app, l1, hs], fun k k0 k1 => ?_⟩
 by_cases e : k < i
 ·rw [int_app_lt k0 (by omega), bool_app_lt k0 (by omega), bool_app_lt k0 (by omega), sub_app_lt k0 (by omega), sub_app_lt k0 (by omega)]
  exact h k k0 e
 ·have : k = i := by omega
  subst this
  rw [int_app_ge (by omega), bool_app_ge (by omega), bool_app_ge (by omega), sub_app_ge (by omega), sub_app_ge (by omega), hs, Int.sub_self]
  exact ⟨hx, hf⟩
theorem copy_step {l : Sl} (hl : fitsB l) {s : Sl} {i : Int} (i0 : 0 <= i) (i1 : i < l.len) (hs : s.len = i) (h : ∀ k : Int, 0 <= k -> k < i -> s.int k 0 = l.int k 0 /\ sameF (s.bool k 1) (s.sub k 2) (s.bool k 3) (s.sub k 4) (l.bool k 1) (l.sub k 2) (l.bool k 3) (l.sub k 4))
  {a c : Bool} {b d : Sl} (hf : q_kCopyFrac (l.bool i 1) (l.sub i 2) (l.bool i 3) (l.sub i 4) a b c d) :
  (s.len + (rowB (l.int i 0) a b c d).len) * 72 <= 140737488355328 /\ Rng .i64 (i + 1) /\ ((0 <= i + 1 /\ i + 1 <= l.len /\ (Sl.app s (rowB (l.int i 0) a b c d)).len = i + 1 /\ ∀ k : Int, 0 <= k -> k < i + 1 -> (Sl.app s (rowB (l.int i 0) a b c d)).int k 0 = l.int k 0 /\ sameF ((Sl.app s (rowB (l.int i 0) a b c d)).bool k 1) ((Sl.app s (rowB (l.int i 0) a b c d)).sub k 2) ((Sl.app s (rowB (l.int i 0) a b c d)).bool k 3) ((Sl.app s (rowB (l.int i 0) a b c d)).sub k 4) (l.bool k 1) (l.sub k 2) (l.bool k 3) (l.sub k 4)) /\
   (l.len - (i + 1)).toNat < (l.len - i).toNat) := by
 have l1 : (rowB (l.int i 0) a b c d).len = 1 := rfl
 have l30 := hl.1
 have st := sameB_to (x := l.int i 0) (a := a) (b := b) (c := c) (d := d) i0 hs h rfl ⟨⟨hf.1, hf.2.1⟩, hf.2.2.1, hf.2.2.2⟩
 rw [l1]
 exact ⟨by omega, by rw [rng64]; omega, ⟨by omega, by omega, st.1, st.2⟩, by omega⟩
theorem fits_lim {l : Sl} (hl : fitsB l) {i : Int} (i0 : 0 <= i) (i1 : i < l.len) : Lim (l.sub i 2) /\ Lim (l.sub i 4) := by
 have := hl.2 i i0 i1
 have a := len0 (l.sub i 2)
 have b := len0 (l.sub i 4)
 unfold Lim
 exact ⟨by omega, by omega⟩
theorem given_ok : V_given := by
 intro l _ hp
 simp only [Bool.decide_eq_true]
 have hp : fitsB l := hp
 have l0 := len0 l
 refine ⟨fun s i => 0 <= i /\ i <= l.len /\ s.len = i /\ ∀ k : Int, 0 <= k -> k < i -> s.int k 0 = l.int k 0 /\ sameF (s.bool k 1) (s.sub k 2) (s.bool k 3) (s.sub k 4) (l.bool k 1) (l.sub k 2) (l.bool k 3) (l.sub k 4), fun _ i => (l.len - i).toNat, ⟨by omega, l0, rfl, fun k _ _ => by omega⟩, fun s _ i _ hJ _ => ?_⟩
 obtain ⟨i0, i1, hs, hk⟩ := hJ
 refine ⟨fun hi => ⟨i0, hi, fun _ => ⟨i0, hi, fun _ _ => ⟨fits_lim hp i0 hi, fun a b _ c d _ hf => copy_step hp i0 hi hs hk hf⟩⟩⟩, fun hi => ⟨⟨by omega, fun k k0 k1 => hk k k0 (by omega)⟩, trivial⟩⟩
theorem scales_ok : V_scales := by
 intro y _ _
 simp only [Bool.decide_eq_true]
 have l0 := len0 y
 refine ⟨fun s i => 0 <= i /\ i <= y.len /\ s.len = i /\ ∀ k : Int, 0 <= k -> k < i -> s.int k 0 = y.int k 0 /\ sameB (s.sub k 1) (y.sub k 1), fun _ i => (y.len - i).toNat, ⟨by omega, l0, rfl, fun k _ _ => by omega⟩, fun s _ i _ hJ sm => ?_⟩
 obtain ⟨i0, i1, hs, hk⟩ := hJ
 have no : (¬ (y.len <= 31 /\ ∀ i : Int, 0 <= i -> i < y.len -> fitsB (y.sub i 1))) -> q_scales y Sl.nil (decide False) /\ True := fun n => ⟨⟨fun h => by simp at h, fun a b => absurd ⟨a, b⟩ n⟩, trivial⟩
 refine ⟨fun hi => ⟨fun h30 => no fun k => by omega, fun h30 => ⟨i0, hi, fun _ => ⟨trivial, fun v hv => ⟨fun k => no fun k' => k (hv.2 (k'.2 i i0 hi)), fun h => ⟨i0, hi, fun _ => ⟨i0, hi, fun _ => ⟨hv.1 (Classical.not_not.1 h), fun r _ hr => ?_⟩⟩⟩⟩⟩⟩⟩, fun hi => ⟨⟨fun _ => ⟨by omega, fun k k0 k1 => hk k k0 (by omega)⟩, fun _ _ => by simp⟩, trivial⟩⟩
 have l1 : (Sl.lit [[.int (y.int i 0), Sl.d r]]).len = 1 := rfl
 rw [l1]
 refine ⟨by omega, by rw [rng64]; omega, ⟨by omega, by omega, by rw [len_app, l1, hs], fun k k0 k1 => ?_⟩, by show (y.len - (i + 1)).toNat < (y.len - i).toNat; omega⟩
 by_cases e : k < i
 ·rw [int_app_lt k0 (by omega), sub_app_lt k0 (by omega)]
  exact hk k k0 e
 ·have : k = i := by omega
  subst this
  rw [int_app_ge (by omega), sub_app_ge (by omega), hs, Int.sub_self]
  exact ⟨rfl, hr⟩
end Go.Sx.N
namespace Go.Sx.N
theorem floor_eq {q : Rat} {k : Int} (h : (k : Rat) <= q) (g : q < ((k + 1 : Int) : Rat)) : q.floor = k := by
 have h1 := Rat.le_floor_iff.2 h
 have h2 := Rat.floor_le q
 have h3 : ((q.floor : Int) : Rat) < ((k + 1 : Int) : Rat) := by grind
 have h4 := Rat.intCast_lt_intCast.1 h3
 omega
section
variable {l : Sl}
theorem ex_ok (h : q_example l) : validS l /\ rq l 0 = 1 / 10 /\ rq l 1 = 3 / 10 := by
 obtain ⟨h0, ⟨f0, q0, a0, b0⟩, f1, q1, a1, b1⟩ := h
 have e0 : rq l 0 = 1 / 10 := by unfold rq; rw [q0.fq, Rat.divInt_eq_div]; rfl
 have e1 : rq l 1 = 3 / 10 := by unfold rq; rw [q1.fq, Rat.divInt_eq_div]; rfl
 have d0 : (rq l 0).den <= 10 := by unfold rq; rw [q0.fq]; exact divInt_den_le (n := 1) (d := 10) (by decide)
 have d1 : (rq l 1).den <= 10 := by unfold rq; rw [q1.fq]; exact divInt_den_le (n := 3) (d := 10) (by decide)
 refine ⟨⟨by omega, fun i i0 i1 => ?_, fun i i0 i1 => ?_⟩, e0, e1⟩
 ·rcases (show i = 0 \/ i = 1 by omega) with rfl | rfl
  ·exact ⟨by rw [f0]; decide, ⟨q0.lowF, by omega, by omega⟩, by show 0 <= rq l 0; rw [e0]; grind, by show rq l 0 <= 1; rw [e0]; grind, by show ((rq l 0).den : Int) <= 1000000; omega⟩
  ·exact ⟨by rw [f1]; decide, ⟨q1.lowF, by omega, by omega⟩, by show 0 <= rq l 1; rw [e1]; grind, by show rq l 1 <= 1; rw [e1]; grind, by show ((rq l 1).den : Int) <= 1000000; omega⟩
 ·have : i = 1 := by omega
  subst this
  exact ⟨by show l.int 0 0 < l.int 1 0; rw [f0, f1]; decide, by show rq l 0 <= rq l 1; rw [e0, e1]; grind⟩
theorem ex_TT (h : q_example l) (m A : Int) {x y : Int} (hx : PI l m A 0 = x) (hy : PI l m A 1 = y) : TT l m A = ((x : Rat) * (1 / 10) + (y : Rat) * (2 / 10)) / 12 := by
 have e := (ex_ok h).2
 have hl : l.len.toNat = 2 := by rw [h.1]; rfl
 have t : TN l m A 2 = 0 + (PI l m A 0 : Rat) * (rq l 0 - rp l 0) + (PI l m A 1 : Rat) * (rq l 1 - rp l 1) := rfl
 have r0 : rp l 0 = 0 := if_pos rfl
 have r1 : rp l 1 = rq l 0 := by unfold rp; rw [if_neg (by decide)]; rfl
 unfold TT
 rw [hl, t, r0, r1, e.1, e.2, hx, hy]
 grind
theorem ex_PI (h : q_example l) (m A : Int) : PI l m A 0 = (if 12 * A - 1000 * m <= 0 then 0 else 12 * A - 1000 * m) /\ PI l m A 1 = (if 12 * A - 2000 * m <= 0 then 0 else 12 * A - 2000 * m) := by
 unfold PI
 rw [h.2.1.1, h.2.2.1]
 exact ⟨rfl, rfl⟩
theorem ex1 (h : q_example l) : TT l 12 2500 = ((250 : Int) : Rat) := by
 rw [ex_TT h 12 2500 (x := 18000) (y := 6000) ((ex_PI h _ _).1.trans (by decide)) ((ex_PI h _ _).2.trans (by decide))]
 rw [show ((18000 : Int) : Rat) = 18000 from rfl, show ((6000 : Int) : Rat) = 6000 from rfl, show ((250 : Int) : Rat) = 250 from rfl]
 grind
theorem ex2 (h : q_example l) : TT l 12 999 = ((0 : Int) : Rat) := by
 rw [ex_TT h 12 999 (x := 0) (y := 0) ((ex_PI h _ _).1.trans (by decide)) ((ex_PI h _ _).2.trans (by decide))]
 rw [show ((0 : Int) : Rat) = 0 from rfl]
 grind
theorem ex3 (h : q_example l) : TT l 6 1250 = ((125 : Int) : Rat) := by
 rw [ex_TT h 6 1250 (x := 9000) (y := 3000) ((ex_PI h _ _).1.trans (by decide)) ((ex_PI h _ _).2.trans (by decide))]
 rw [show ((9000 : Int) : Rat) = 9000 from rfl, show ((3000 : Int) : Rat) = 3000 from rfl, show ((125 : Int) : Rat) = 125 from rfl]
 grind
theorem ex4 (h : q_example l) : (TT l 1 100).floor = 1 := by
 rw [ex_TT h 1 100 (x := 200) (y := 0) ((ex_PI h _ _).1.trans (by decide)) ((ex_PI h _ _).2.trans (by decide))]
 rw [show ((200 : Int) : Rat) = 200 from rfl, show ((0 : Int) : Rat) = 0 from rfl]
 refine floor_eq ?_ ?_
 ·rw [show ((1 : Int) : Rat) = 1 from rfl]; grind
 ·rw [show ((1 + 1 : Int) : Rat) = 2 from rfl]; grind
theorem ex5 (h : q_example l) : (TT l 2 100).floor = 0 := by
 rw [ex_TT h 2 100 (x := 0) (y := 0) ((ex_PI h _ _).1.trans (by decide)) ((ex_PI h _ _).2.trans (by decide))]
 have : (((0 : Int) : Rat) * (1 / 10) + ((0 : Int) : Rat) * (2 / 10)) / 12 = ((0 : Int) : Rat) := by rw [show ((0 : Int) : Rat) = 0 from rfl]; grind
 rw [this]; exact Rat.floor_intCast 0
theorem ex6 (h : q_example l) : (TT l 3 600).floor = 55 := by
 rw [ex_TT h 3 600 (x := 4200) (y := 1200) ((ex_PI h _ _).1.trans (by decide)) ((ex_PI h _ _).2.trans (by decide))]
 have : (((4200 : Int) : Rat) * (1 / 10) + ((1200 : Int) : Rat) * (2 / 10)) / 12 = ((55 : Int) : Rat) := by
  rw [show ((4200 : Int) : Rat) = 4200 from rfl, show ((1200 : Int) : Rat) = 1200 from rfl, show ((55 : Int) : Rat) = 55 from rfl]; grind
 rw [this]; exact Rat.floor_intCast 55
end
def year1 (x : Int) (l : Sl) : Sl := Sl.lit [[.int x, Sl.d l]]
theorem year1_valid {x : Int} {l : Sl} (h : validS l) : validY (year1 x l) := by
 have e : (year1 x l).len = 1 := rfl
 refine ⟨fun i i0 i1 => ?_, fun i i0 i1 => by omega⟩
 have : i = 0 := by omega
 subst this
 exact h
theorem year1_appl {x year : Int} {l : Sl} (h : x <= year) : Appl (year1 x l) year 0 := by
 have e : (year1 x l).len = 1 := rfl
 exact ⟨by omega, by omega, h, fun j j0 j1 => by omega⟩
theorem awake_ok : V_awake := by
 intro _
 simp only [Bool.decide_eq_true]
 refine ⟨trivial, fun l _ h => ⟨trivial, fun a b rb c d rd e1 _ h1 => ⟨trivial, fun a2 b2 rb2 c2 d2 rd2 e2 _ h2 => ⟨trivial, fun x1 _ e3 _ h3 => ⟨trivial, fun x2 _ e4 _ h4 => ⟨trivial, fun r1 _ m1 _ g1 _ t1 _ e5 _ h5 => ⟨trivial, fun r2 _ m2 _ g2 _ t2 _ e6 _ h6 => ?_⟩⟩⟩⟩⟩⟩⟩
 have v := (ex_ok h).1
 obtain ⟨q1, _, z1⟩ := h1.1 ⟨v, by decide, by decide⟩
 obtain ⟨q2, _, z2⟩ := h2.1 ⟨v, by decide, by decide⟩
 obtain ⟨p3, z3⟩ := h3.1 ⟨v, by decide, by decide, by decide⟩
 obtain ⟨p4, z4⟩ := h4.1 ⟨v, by decide, by decide, by decide⟩
 rw [ex1 h] at q1
 rw [ex2 h] at q2
 rw [ex3 h, Rat.floor_intCast] at p3
 rw [ex4 h] at p4
 have h5 : held (year1 1900 l) 0 0 0 1 100 r1 m1 g1 t1 e5 := h5
 have a5 := ((h5.2 ⟨year1_valid v, by decide, by unfold amt; decide, by decide, by decide, by unfold amt; decide⟩).2 0 (year1_appl (by decide))).2 (by decide)
 obtain ⟨c1, c2, c3, c4, z5⟩ := a5
 have c2 : g1 = 100 := c2
 have c1 : m1 = 1 := c1
 subst c1 c2
 have c3 : t1 = (TT l 2 100).floor := c3
 rw [ex5 h] at c3
 subst c3
 have c4 : r1 = 0 := c4
 have h6 : held (year1 1900 l) 1 100 0 2 500 r2 m2 g2 t2 e6 := h6
 have a6 := ((h6.2 ⟨year1_valid v, by decide, by unfold amt; decide, by decide, by decide, by unfold amt; decide⟩).2 0 (year1_appl (by decide))).2 (by decide)
 obtain ⟨k1, k2, k3, k4, z6⟩ := a6
 have k2 : g2 = 600 := k2
 have k1 : m2 = 2 := k1
 subst k1 k2
 have k3 : t2 = (TT l 3 600).floor := k3
 rw [ex6 h] at k3
 subst k3
 have k4 : r2 = 55 := k4
 subst z1 z2 z3 z4 z5 z6 p3 p4 c4 k4
 refine ⟨by rw [rng64]; decide, by rw [rng64]; decide, by rw [rng64]; decide, by rw [rng64]; decide, by rw [rng64]; decide, fun _ => ⟨trivial, fun n s rs n' s' rs' g => ⟨trivial, fun u hu => ⟨fun _ => ⟨trivial, fun n2 s2 rs2 n2' s2' rs2' g2 => ⟨trivial, fun u2 hu2 => ⟨fun _ => ?_, fun k => ?_⟩⟩⟩, fun k => ?_⟩⟩⟩, fun k => absurd (by decide) k⟩
 ·exact ⟨fun _ => ⟨fun _ => ⟨fun _ => ⟨fun _ => ⟨fun _ => ⟨rfl, trivial⟩, fun k => absurd rfl k⟩, fun k => absurd ⟨rfl, rfl, rfl⟩ k⟩, fun k => absurd rfl k⟩, fun k => absurd rfl k⟩, fun k => absurd rfl k⟩
 ·exact absurd (hu2.2 (q2.same g2.1 (ranged16 rb2) (ranged16 rd2) (ranged16 rs2) (ranged16 rs2'))) k
 ·exact absurd (hu.2 (q1.same g.1 (ranged16 rb) (ranged16 rd) (ranged16 rs) (ranged16 rs'))) k
end Go.Sx.N
namespace Go.Sx.N
section
variable {l : Sl}
end
end Go.Sx.N
