/-
 Conditions: states as the reference has them, and its taking back. Conditions: none.
-/
import Derived.Test.YtccbjhfdfbaekaaGreatNumVQ
import Derived.Test.YtccbjhfdfbaekaaGreatRunLb
set_option linter.unusedVariables false
set_option linter.unusedSimpArgs false
set_option maxRecDepth 20000
namespace Go.Sx.N
theorem acT : V9 := by
 intro st _ d p mo _ g _ t _ l st' _ d' p' bQ _ g' _ t' _ l' _
 simp only [Bool.decide_eq_true]
 have no : ¬ Qu st d p mo g t l st' d' p' bQ g' t' l' -> mY st d p mo g t l st' d' p' bQ g' t' l' (decide False) /\ True := fun h => ⟨by simp [mY, h], trivial⟩
 have l0 := len0 l
 refine ⟨trivial, fun b hb => ⟨fun h => no fun k => h (hb.2 k.1), fun h => ⟨fun h2 => no fun k => h2 k.2.1, fun h2 hs _ => ⟨fun h3 => no fun k => h3 k.2.2.1, fun h3 _ => ?_⟩⟩⟩⟩
 have h := hb.1 (Classical.not_not.1 h)
 have h2 := Classical.not_not.1 h2
 have h3 := Classical.not_not.1 h3
 have hs := iO hs
 refine ⟨fun i => (0 <= i /\ i <= l.len) /\ ∀ k : Int, 0 <= k -> k < i -> lT l k l' k /\ (l.bool k 9 = true ↔ l'.bool k 9 = true), fun i => (l.len - i).toNat, ⟨⟨by omega, l0⟩, fun k k0 k1 => by omega⟩, fun i ri hJ => ?_⟩
 obtain ⟨⟨i0, i1⟩, hE⟩ := hJ
 refine ⟨fun hlt => ⟨i0, hlt, fun _ _ _ _ _ _ _ _ _ => ⟨i0, by omega, fun _ _ _ _ _ _ _ _ _ => ⟨fun h4 => no fun k => h4 ?_, fun h4 => ?_⟩⟩⟩, fun hge => ⟨?_, trivial⟩⟩
 ·obtain ⟨⟨⟨a0, a1, a2, a3⟩, a4, a5, a6, a7, a8⟩, a9⟩ := k.2.2.2 i i0 hlt
  exact ⟨a0, a1, a2, a3, a4, a5, a6, a7, a8, a9⟩
 ·obtain ⟨a0, a1, a2, a3, a4, a5, a6, a7, a8, a9⟩ := Classical.not_not.1 h4
  refine ⟨by rw [ak]; omega, ⟨⟨by omega, by omega⟩, fun k k0 k1 => ?_⟩, by show (l.len - (i + 1)).toNat < (l.len - i).toNat; omega⟩
  by_cases c : k = i
  ·subst c; exact ⟨⟨⟨a0, a1, a2, a3⟩, a4, a5, a6, a7, a8⟩, a9⟩
  ·exact hE k k0 (by omega)
 ·simp only [mY, decide_true, true_iff]
  exact ⟨h, h2, h3, fun k k0 k1 => hE k k0 (by omega)⟩
theorem aah : Ue := by
 intro st _ d p mo _ g _ t _ l _
 simp only [Bool.decide_eq_true]
 have no : ¬ dU st d p mo g t l -> bG st d p mo g t l (decide False) /\ True := fun h => ⟨by simp [bG, h], trivial⟩
 have l0 := len0 l
 refine ⟨trivial, fun b hb => ⟨fun h => no fun k => h (hb.2 k.1.1), fun h => ⟨fun h1 => no fun k => by have := k.2.1.1.1; omega, fun h1 => ⟨fun h2 => no fun k => by have := k.2.1.1.2; omega, fun h2 => ⟨fun h3 => no fun k => by have := k.2.1.2.1.1; omega, fun h3 => ⟨fun h4 => no fun k => by have := k.2.1.2.1.2; omega, fun h4 => ⟨fun h5 => no fun k => by have := k.2.1.2.2.1; omega, fun h5 => ⟨fun h6 => no fun k => by have := k.2.1.2.2.2; omega, fun h6 _ => ⟨fun h7 => no fun k => by have := k.1.2; omega, fun h7 => ?_⟩⟩⟩⟩⟩⟩⟩⟩⟩
 have h := hb.1 (Classical.not_not.1 h)
 refine ⟨fun i => (0 <= i /\ i <= l.len) /\ ∀ k : Int, 0 <= k -> k < i -> gY p.len l k, fun i => (l.len - i).toNat, ⟨⟨by omega, l0⟩, fun k k0 k1 => by omega⟩, fun i ri hJ _ => ?_⟩
 obtain ⟨⟨i0, i1⟩, hE⟩ := hJ
 refine ⟨fun hlt => ?_, fun hge => ⟨?_, trivial⟩⟩
 ·have ok : dU st d p mo g t l -> gY p.len l i /\ 0 <= l.int i 4 /\ 0 <= l.int i 0 /\ 0 <= l.int i 2 := fun k => ⟨k.2.2 i i0 hlt, GH k.2.2 i0 hlt⟩
  have nx : gY p.len l i -> Rng .i64 (i + 1) /\ ((0 <= i + 1 /\ i + 1 <= l.len) /\ ∀ k : Int, 0 <= k -> k < i + 1 -> gY p.len l k) /\ (l.len - (i + 1)).toNat < (l.len - i).toNat := fun ho => ⟨by rw [ak]; omega, ⟨⟨by omega, by omega⟩, fun k k0 k1 => by
   by_cases c : k = i
   ·rw [c]; exact ho
   ·exact hE k k0 (by omega)⟩, by omega⟩
  refine ⟨i0, hlt, fun _ _ _ _ _ _ _ _ _ => ⟨fun a => no fun k => by have := (ok k).2; omega, fun a0 => ⟨fun a => no fun k => by have := (ok k).2; omega, fun a1 => ⟨fun a => no fun k => by have := (ok k).2; omega, fun a2 => ⟨fun a => no fun k => by have := (ok k).1.2.1; omega, fun a3 _ => ⟨fun a => no fun k => by have := (ok k).1.2.1; omega, fun a4 =>
   ⟨fun a => no fun k => by have := (ok k).1.2.2.1.1; omega, fun a5 => ⟨fun a => no fun k => by have := (ok k).1.2.2.1.2; omega, fun a6 => ⟨fun a => no fun k => by have := (ok k).1.2.2.2.1; omega, fun a7 => ⟨fun a => no fun k => by have := (ok k).1.2.2.2.2; omega, fun a8 => ⟨fun c => ?_, fun c => ?_⟩⟩⟩⟩⟩⟩⟩⟩⟩⟩⟩
  ·have pv : ∀ (k : Nat) (d0 : Int), bI l k d0 i = l.int (i - 1) k := fun k d0 => by unfold bI; rw [if_neg (by omega)]
   have no3 : ¬ (l.int (i - 1) 0 < l.int i 0 /\ l.int (i - 1) 4 < l.int i 4 /\ l.int (i - 1) 3 <= l.int i 2) -> bG st d p mo g t l (decide False) /\ True := fun hn => no fun k => hn (by
    have := (ok k).1
    unfold gY at this
    rw [pv, pv, pv] at this
    exact ⟨this.1.1, this.1.2, this.2.1.1⟩)
   refine ⟨by rw [ak]; omega, by omega, by omega, fun _ => ⟨fun b0 => no3 fun k => by omega, fun b0 => ⟨by rw [ak]; omega, by omega, by omega, fun _ => ⟨fun b1 => no3 fun k => by omega, fun b1 => ⟨by rw [ak]; omega, by omega, by omega, fun _ => ⟨fun b2 => no3 fun k => by omega, fun b2 => nx ?_⟩⟩⟩⟩⟩⟩
   unfold gY
   rw [pv, pv, pv]
   exact ⟨⟨by omega, by omega⟩, ⟨by omega, by omega, by omega⟩, ⟨by omega, by omega⟩, ⟨by omega, by omega⟩⟩
  ·have e : i = 0 := by omega
   subst e
   refine nx ?_
   unfold gY
   rw [kL, kL, kL]
   exact ⟨⟨by omega, by omega⟩, ⟨by omega, by omega, by omega⟩, ⟨by omega, by omega⟩, ⟨by omega, by omega⟩⟩
 ·simp only [bG, decide_true, true_iff]
  exact ⟨⟨h, by omega⟩, ⟨⟨by omega, by omega⟩, ⟨by omega, by omega⟩, ⟨by omega, by omega⟩⟩, fun k k0 k1 => hE k k0 (by omega)⟩
theorem XW : Pg := by
 intro st _ d p mo _ g _ t _ l num _ day _ _
 simp only [Bool.decide_eq_true, qE]
 have zz : Dq 0 Sl.nil Sl.nil 0 0 0 Sl.nil := ⟨⟨rfl, rfl, rfl⟩, rfl, rfl, rfl, rfl⟩
 have l0 := len0 l
 refine ⟨trivial, fun v hv => ⟨fun h => ⟨⟨fun _ => ⟨rfl, zz⟩, fun k => absurd (hv.2 k) h⟩, trivial⟩, fun h => ?_⟩⟩
 have hV := hv.1 (Classical.not_not.1 h)
 have hS := hV.2.2
 have hl12 := hV.1.2
 refine ⟨fun i _ _ _ _ _ _ _ => (0 <= i /\ i <= l.len) /\ ∀ j : Int, 0 <= j -> j < i -> ¬ jv l num j, fun i _ _ _ _ _ _ _ => (l.len - i).toNat, ⟨⟨by omega, l0⟩, fun j _ _ => by omega⟩, fun i ri x2 _ s3 s4 x5 _ x6 _ x7 _ s8 hJ _ => ?_⟩
 obtain ⟨⟨i0, i1⟩, hN⟩ := hJ
 have next : ¬ jv l num i -> i < l.len -> Rng .i64 (i + 1) /\ ((0 <= i + 1 /\ i + 1 <= l.len) /\ ∀ j : Int, 0 <= j -> j < i + 1 -> ¬ jv l num j) /\ (l.len - (i + 1)).toNat < (l.len - i).toNat := fun hn hlt => ⟨by rw [ak]; omega, ⟨⟨by omega, by omega⟩, fun j j0 j1 => by
  by_cases c : j = i
  ·rw [c]; exact hn
  ·exact hN j j0 (by omega)⟩, by omega⟩
 refine ⟨fun hlt => ⟨i0, hlt, fun rm0 _ _ _ _ _ _ _ _ => ⟨fun hne => next (fun k => hne k.2.2.1) hlt, fun heq => ⟨fun hg => next (fun k => k.2.2.2 hg) hlt, fun hg => ?_⟩⟩⟩, fun hge => ⟨⟨fun k => absurd hV k, fun _ => ⟨fun _ => ⟨rfl, zz⟩, fun n hn => absurd hn (hN n hn.1 (by have := hn.2.1; omega))⟩⟩, trivial⟩⟩
 have ha : jv l num i := ⟨i0, hlt, Classical.not_not.1 heq, hg⟩
 have hs1 := hS i i0 hlt
 obtain ⟨g0, g1⟩ := hs1.2.2.1
 obtain ⟨t0, t1⟩ := hs1.2.2.2
 have hto := hs1.2.1
 have hlo := GH hS i0 hlt
 obtain ⟨m0, m1⟩ := hV.2.1.1
 obtain ⟨vg0, vg1⟩ := hV.2.1.2.1
 obtain ⟨vt0, vt1⟩ := hV.2.1.2.2
 have pn4 := hV.1.1.2.2.1
 have hfo := hV.1.1.2.2.2
 refine ⟨fun s k => s = Sl.lit (kJ p day (l.int i 2) (k - l.int i 2).toNat) /\ l.int i 2 <= k /\ k <= l.int i 3, fun _ k => (l.int i 3 - k).toNat, ⟨by rw [Int.sub_self]; exact BZ, Int.le_refl _, hto.2.1⟩, fun s k rk hJ2 => ?_⟩
 obtain ⟨rfl, k0, k1⟩ := hJ2
 have ll := JX (p := p) (day := day) (lo := l.int i 2) (k - l.int i 2).toNat
 have lL : (Sl.lit (kJ p day (l.int i 2) (k - l.int i 2).toNat)).len <= 4000 := by
  show ((kJ p day (l.int i 2) (k - l.int i 2).toNat).length : Int) <= 4000
  omega
 refine ⟨fun hlt2 => ⟨by omega, by omega, fun _ _ _ _ => ?_⟩, fun alr => ?_⟩
 ·have tx : -1099511627776 <= p.int k 3 /\ p.int k 3 <= 1099511627776 := by
   have hx := (hfo k (by omega) (by omega)).1
   rcases hx.2 with k | k <;> exact ⟨by omega, by omega⟩
  have one : ∀ x, (Sl.lit [x]).len = 1 := fun _ => rfl
  have e1 : (k + 1 - l.int i 2).toNat = (k - l.int i 2).toNat + 1 := by omega
  have ek : l.int i 2 + (((k - l.int i 2).toNat : Nat) : Int) = k := by omega
  have nx : ∀ {s' : Sl}, s' = Sl.lit (kJ p day (l.int i 2) (k - l.int i 2).toNat ++ dL p day k) -> Rng .i64 (k + 1) /\ (s' = Sl.lit (kJ p day (l.int i 2) (k + 1 - l.int i 2).toNat) /\ l.int i 2 <= k + 1 /\ k + 1 <= l.int i 3) /\ (l.int i 3 - (k + 1)).toNat < (l.int i 3 - k).toNat := fun hs => ⟨by rw [ak]; omega, ⟨by
   rw [hs, e1]
   show _ = Sl.lit (kJ p day (l.int i 2) (k - l.int i 2).toNat ++ dL p day (l.int i 2 + (((k - l.int i 2).toNat : Nat) : Int)))
   rw [ek], by omega, by omega⟩, by omega⟩
  refine ⟨fun c1 => ⟨by rw [ak]; omega, by rw [one]; omega, fun c4 => absurd (c1.symm.trans c4) (by decide), fun _ => nx (by rw [jS]; unfold dL; rw [if_pos (.inl c1)])⟩,
   fun c1 => ⟨fun c2 => ⟨by rw [ak]; omega, by rw [one]; omega, fun c4 => absurd (c2.symm.trans c4) (by decide), fun _ => nx (by rw [jS]; unfold dL; rw [if_pos (.inr c2)])⟩,
   fun c2 => ⟨fun c4 => ⟨by rw [ak]; omega, by rw [one]; omega, nx (by rw [jS]; unfold dL; rw [if_neg (by omega), if_pos c4])⟩, fun c4 => nx (by unfold dL; rw [if_neg (by omega), if_neg c4, List.append_nil])⟩⟩⟩
 ·have ek : k = l.int i 3 := by omega
  subst ek
  refine ⟨⟨by omega, by omega⟩, fun st1 _ d1 p1 e1 _ hq => ⟨fun h0 => ⟨⟨fun k => absurd hV k, fun _ => ⟨fun k => absurd ha (k i), fun n hn => ?_⟩⟩, trivial⟩, fun h0 => ?_⟩⟩
  ·have e := AV hS hn ha
   subst e
   exact ⟨st1, d1, p1, e1, hq, fun _ => ⟨rfl, zz⟩, fun k => absurd k h0⟩
  ·have e0 := Classical.not_not.1 h0
   subst e0
   have hq' := qC hq
   have fin : ∀ g' t', NZ mo g t l i mo g' t' -> fH st d p mo g t l num day st1 d1 p1 mo g' t' (Sl.upd l i 9 [.bool (decide True)]) 0 /\ True := fun g' t' hb => ⟨⟨fun k => absurd hV k, fun _ => ⟨fun k => absurd ha (k i), fun n hn => by
    have e := AV hS hn ha
    subst e
    exact ⟨st1, d1, p1, 0, hq, fun k => absurd rfl k, fun _ => ⟨rfl, hq'.1, ⟨rfl, fun _ _ _ => rfl⟩, gZ _, ⟨rfl, fun j j0 j1 => ⟨⟨⟨dQ (by decide), dQ (by decide), dQ (by decide), dQ (by decide)⟩, dQ (by decide), dQ (by decide), dQ (by decide), dQ (by decide), dQ (by decide)⟩, by
     rw [PL i0 j0]
     by_cases e : j = n
     ·simp [e]
     ·simp [e]⟩⟩, hb⟩⟩⟩⟩, trivial⟩
   rw [rP m0, rP hlo.2.1]
   refine ⟨by show ((Sl.lit []).len + l.len) * 80 <= _; have : (Sl.lit []).len = 0 := rfl; omega, i0, hlt, by decide, by rw [ak]; omega, by decide, by rw [ak] at rm0 ⊢; have := hlo.2.1; omega, fun he => ⟨by rw [ak]; omega, fun hneg => ⟨by rw [ak]; omega, fun hb => ⟨fun k => absurd k (by decide), fun _ => fin _ _ ⟨rfl, fun _ => ⟨?_, ?_⟩, fun k => absurd he k⟩⟩, fun hb => ⟨fun hc => fin _ _ ⟨rfl, fun _ => ⟨?_, ?_⟩, fun k => absurd he k⟩, fun hc => fin _ _ ⟨rfl, fun _ => ⟨?_, ?_⟩, fun k => absurd he k⟩⟩⟩,
    fun hneg => ⟨by rw [ak]; omega, fun hb => ⟨fun k => absurd k (by decide), fun _ => fin _ _ ⟨rfl, fun _ => ⟨?_, ?_⟩, fun k => absurd he k⟩⟩, fun hb => ⟨fun hc => fin _ _ ⟨rfl, fun _ => ⟨?_, ?_⟩, fun k => absurd he k⟩, fun hc => fin _ _ ⟨rfl, fun _ => ⟨?_, ?_⟩, fun k => absurd he k⟩⟩⟩⟩, fun he => fin _ _ ⟨rfl, fun k => absurd k he, fun _ => ⟨rfl, rfl⟩⟩⟩
   all_goals first
    | (unfold imax; split <;> omega)
    | (unfold aar imin imax; (repeat' split) <;> omega)
theorem Vr {a b : Sl} {i : Int} {j : Nat} (h : 0 <= i) (h' : i < a.len) : (Sl.app a b).bool i j = a.bool i j := by
 have : i.toNat < a.n := by unfold Sl.len at h'; omega
 show D.toB (if i.toNat < a.n then a.f i.toNat j else b.f (i.toNat - a.n) j) = _
 rw [if_pos this]; rfl
theorem Vs {a b : Sl} {i : Int} {j : Nat} (h : a.len <= i) : (Sl.app a b).bool i j = b.bool (i - a.len) j := by
 have h0 := len0 a
 have : ¬ i.toNat < a.n := by unfold Sl.len at *; omega
 have e : (i - a.len).toNat = i.toNat - a.n := by unfold Sl.len at *; omega
 show D.toB (if i.toNat < a.n then a.f i.toNat j else b.f (i.toNat - a.n) j) = D.toB (b.f (i - a.len).toNat j)
 rw [if_neg this, e]
theorem ML {l s : Sl} {i : Int} (i0 : 0 <= i) (hs : s.len = i) (hE : ∀ k : Int, 0 <= k -> k < i -> lT s k l k /\ (s.bool k 9 = true ↔ l.bool k 9 = true)) {b : Bool} (hb : b = true ↔ l.bool i 9 = true) :
  (Sl.app s (Sl.lit [[.int (l.int i 0), .int (l.int i 1), .int (l.int i 2), .int (l.int i 3), .int (l.int i 4), .int (l.int i 5), .int (l.int i 6), .int (l.int i 7), .int (l.int i 8), .bool b]])).len = i + 1 /\
  ∀ k : Int, 0 <= k -> k < i + 1 -> lT (Sl.app s (Sl.lit [[.int (l.int i 0), .int (l.int i 1), .int (l.int i 2), .int (l.int i 3), .int (l.int i 4), .int (l.int i 5), .int (l.int i 6), .int (l.int i 7), .int (l.int i 8), .bool b]])) k l k /\ ((Sl.app s (Sl.lit [[.int (l.int i 0), .int (l.int i 1), .int (l.int i 2), .int (l.int i 3), .int (l.int i 4), .int (l.int i 5), .int (l.int i 6), .int (l.int i 7), .int (l.int i 8), .bool b]])).bool k 9 = true ↔ l.bool k 9 = true) := by
 generalize hr : Sl.lit [[.int (l.int i 0), .int (l.int i 1), .int (l.int i 2), .int (l.int i 3), .int (l.int i 4), .int (l.int i 5), .int (l.int i 6), .int (l.int i 7), .int (l.int i 8), .bool b]] = r
 have rl : r.len = 1 := by rw [<- hr]; rfl
 refine ⟨by rw [dO, hs, rl], fun k k0 k1 => ?_⟩
 by_cases c : k = i
 ·have hi : ∀ j, (Sl.app s r).int k j = r.int 0 j := fun j => by rw [aJ (by omega), c, hs, Int.sub_self]
  have BU : (Sl.app s r).bool k 9 = r.bool 0 9 := by rw [Vs (by omega), c, hs, Int.sub_self]
  unfold lT
  rw [hi, hi, hi, hi, hi, hi, hi, hi, hi, BU, <- hr, c]
  exact ⟨⟨⟨rfl, rfl, rfl, rfl⟩, rfl, rfl, rfl, rfl, rfl⟩, hb⟩
 ·have hi : ∀ j, (Sl.app s r).int k j = s.int k j := fun j => bD k0 (by omega)
  have BU : (Sl.app s r).bool k 9 = s.bool k 9 := Vr k0 (by omega)
  unfold lT
  rw [hi, hi, hi, hi, hi, hi, hi, hi, hi, BU]
  exact hE k k0 (by omega)
theorem ada : Wj := by
 intro st _ d p mo _ g _ t _ l hp
 simp only [Bool.decide_eq_true]
 have hp : l.len <= 1000000 := hp
 have l0 := len0 l
 refine fun _ => ⟨fun i st' d' p' bQ g' t' s => ((0 <= i /\ i <= l.len) /\ (st' = st /\ d' = d /\ p' = p) /\ (bQ = mo /\ g' = g /\ t' = t)) /\ s.len = i /\ ∀ k : Int, 0 <= k -> k < i -> lT s k l k /\ (s.bool k 9 = true ↔ l.bool k 9 = true), fun i _ _ _ _ _ _ _ => (l.len - i).toNat, ⟨⟨⟨by omega, l0⟩, ⟨rfl, rfl, rfl⟩, rfl, rfl, rfl⟩, rfl, fun k _ _ => by omega⟩, fun i ri st' _ d' p' bQ _ g' _ t' _ s hJ => ?_⟩
 obtain ⟨⟨⟨i0, i1⟩, hl, hm⟩, hs, hE⟩ := hJ
 refine ⟨fun hlt => ⟨i0, hlt, fun _ _ _ _ _ _ _ _ _ => ⟨?_, by rw [ak]; omega, ⟨⟨⟨by omega, by omega⟩, hl, hm⟩, ML i0 hs hE Iff.rfl⟩, by show (l.len - (i + 1)).toNat < (l.len - i).toNat; omega⟩⟩, fun hge => ⟨⟨hl, hm, by rw [hs]; omega, fun k k0 k1 => hE k k0 (by omega)⟩, trivial⟩⟩
 rw [hs]
 show (i + 1) * 80 <= _
 omega
theorem ac9 : Wi := by
 intro st _ d p mo _ g _ t _ l hp
 simp only [Bool.decide_eq_true, qE]
 obtain ⟨hd, hq, hp⟩ := (show d.len <= 1000000 /\ p.len <= 1000000 /\ l.len <= 1000000 from hp)
 have l0 := len0 l
 have e0 : (Sl.lit []).len = 0 := rfl
 have s1 : ((Sl.lit []).len + d.len) * 8 <= 140737488355328 := by omega
 have s2 : ((Sl.lit []).len + p.len) * 32 <= 140737488355328 := by omega
 refine ⟨⟨⟨s1, s2, fun _ => ?_⟩, s1, s2, fun _ => ?_⟩, s1, s2, fun _ => ?_⟩
 all_goals
  refine ⟨fun i st' d' p' bQ g' t' s => ((0 <= i /\ i <= l.len) /\ (st' = st /\ d' = d /\ p' = p) /\ (bQ = mo /\ g' = g /\ t' = t)) /\ s.len = i /\ ∀ k : Int, 0 <= k -> k < i -> lT s k l k /\ (s.bool k 9 = true ↔ l.bool k 9 = true), fun i _ _ _ _ _ _ _ => (l.len - i).toNat, ⟨⟨⟨by omega, l0⟩, ⟨rfl, rfl, rfl⟩, rfl, rfl, rfl⟩, rfl, fun k _ _ => by omega⟩, fun i ri st' _ d' p' bQ _ g' _ t' _ s hJ => ?_⟩
  obtain ⟨⟨⟨i0, i1⟩, hl, hm⟩, hs, hE⟩ := hJ
  refine ⟨fun hlt => ⟨i0, hlt, fun _ _ _ _ _ _ _ _ _ => ⟨?_, by rw [ak]; omega, ⟨⟨⟨by omega, by omega⟩, hl, hm⟩, ML i0 hs hE Iff.rfl⟩, by show (l.len - (i + 1)).toNat < (l.len - i).toNat; omega⟩⟩, fun hge => ⟨⟨hl, hm, by rw [hs]; omega, fun k k0 k1 => hE k k0 (by omega)⟩, trivial⟩⟩
  rw [hs]
  show (i + 1) * 80 <= _
  omega
end Go.Sx.N
