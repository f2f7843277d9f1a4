/-
  Conditions of three functions that not every seat has. Conditions: none.
-/
import Derived.Test.YtedajccdbdlaoaaGreatTaxFc
set_option linter.unusedVariables false
set_option linter.unusedSimpArgs false
namespace Go.Sx.N

theorem ownFrac_ok : V_ownFrac := by
  intro a b _ c d _ hp
  simp only [Bool.decide_eq_true]
  obtain ⟨h1, h2⟩ := hp
  unfold Lim at h1 h2
  rw [len_nil]
  exact ⟨by omega, by omega, ⟨⟨rfl, sameI_app rfl⟩, rfl, sameI_app rfl⟩, trivial⟩

theorem below_ok : V_below := by
  intro a b rb c d rd _
  simp only [Bool.decide_eq_true]
  refine ⟨trivial, fun n s rs x _ hx => ⟨trivial, fun n1 s1 r1 n2 s2 r2 h1 => ⟨trivial, fun y _ z _ hy => ?_⟩⟩⟩
  have key : okF a b c d → inI64 (fq a b d).floor → x = 0 ∧ IsQ (((fq a b d).floor : Int) : Rat) n s n1 s1 := fun ok _ => by
    have f := hx.1 ok
    have z1 : zv n1 s1 = 1 := by rw [h1.1.2.1]; rfl
    exact ⟨f.2.2, isQ_int (n := (fq a b d).floor) (ranged16 r1) f.1 f.2.1 h1.1.1 z1⟩
  have fin : okF a b c d → inI64 (fq a b d).floor → y = (fq a b d).floor ∧ z = 0 := fun ok hi => by
    obtain ⟨_, q⟩ := key ok hi
    have bd : fitQ (((fq a b d).floor : Int) : Rat) := by
      unfold inI64 at hi
      have c : cap256 = ((65536 ^ 256 : Nat) : Int) := by rw [cap256_eq]; exact (Int.natCast_pow 65536 256).symm
      have big : ((9223372036854775808 : Nat) : Int) < cap256 := by rw [c]; exact Int.ofNat_lt.2 (by decide)
      have one : ((1 : Nat) : Int) < cap256 := by rw [c]; exact Int.ofNat_lt.2 (by decide)
      refine ⟨?_, ?_⟩
      · rw [Rat.num_intCast]; omega
      · rw [Rat.den_intCast]; exact one
    have ok2 := q.ok (ranged16 rs) (ranged16 r1) bd
    have h2 := hy.2 ok2
    rw [q.fq] at h2
    have h3 := (h2.2 (Rat.den_intCast _)).1 (by rw [Rat.num_intCast]; exact hi)
    rw [Rat.num_intCast] at h3
    exact h3
  refine ⟨fun hne => ⟨fun ok hi => absurd (key ok hi).1 hne, trivial⟩, fun _ => ⟨fun hne => ⟨fun ok hi => absurd (fin ok hi).2 hne, trivial⟩, fun _ => ⟨fun ok hi => (fin ok hi).1, trivial⟩⟩⟩

theorem tScale_ok : V_tScale := by
  intro y _ year _ _
  simp only [Bool.decide_eq_true]
  refine ⟨trivial, fun v hv => ⟨fun h => ⟨⟨fun _ => ⟨rfl, rfl⟩, fun k => absurd (hv.2 k) h, fun k => absurd (hv.2 k) h⟩, trivial⟩, fun h => ⟨trivial, fun s _ b hb => ?_⟩⟩⟩
  have vy := hv.1 (Classical.not_not.1 h)
  refine ⟨fun hn => ?_, fun hy sm => ?_⟩
  · have no := (hb.2 (by simpa using hn)).1
    exact ⟨⟨fun k => absurd vy k, fun _ _ => ⟨rfl, rfl⟩, fun _ i hi => (hi.no no).elim⟩, trivial⟩
  obtain ⟨i, hi, es⟩ := hb.1 (Classical.not_not.1 hy)
  have vs := hi.validS vy
  rw [← es] at vs
  have l0 := len0 s
  have l20 := vs.1
  refine ⟨l0, Int.le_refl _, by omega, fun _ => ⟨fun k r => 0 ≤ k ∧ k ≤ s.len ∧ r.len = s.len ∧ ∀ j : Int, 0 ≤ j → j < k → r.int j 0 = s.int j 0 ∧ sameF (r.bool j 1) (r.sub j 2) (r.bool j 3) (r.sub j 4) (s.bool j 1) (s.sub j 2) (s.bool j 3) (s.sub j 4), fun k _ => (s.len - k).toNat, ⟨by omega, l0, len_rep l0 _, fun j _ _ => by omega⟩, fun k _ r _ hJ => ?_⟩⟩
  obtain ⟨k0, k1, hr, hk⟩ := hJ
  refine ⟨fun hlt => ⟨k0, hlt, fun _ _ _ => ⟨?_, fun a b _ c d _ hf => ⟨k0, by omega, by rw [rng64]; omega, ⟨by omega, by omega, hr, fun j j0 j1 => ?_⟩, by show (s.len - (k + 1)).toNat < (s.len - k).toNat; omega⟩⟩⟩, fun hge => ⟨⟨fun g => absurd vy g, fun _ hno => (hi.no hno).elim, fun _ j hj => ⟨?_, rfl⟩⟩, trivial⟩⟩
  · have ok := (vs.2.1 k k0 hlt).2.1
    exact ⟨by have := ok.2.1; unfold Lim; omega, by have := ok.2.2; unfold Lim; omega⟩
  · by_cases e : j = k
    · subst e
      have key : ∀ q : Nat, q < 5 → (Sl.upd r j 0 [.int (s.int j 0), .bool a, Sl.d b, .bool c, Sl.d d]).f j.toNat q = [D.int (s.int j 0), .bool a, Sl.d b, .bool c, Sl.d d].getD q (.int 0) := fun q hq => by
        show (if _ then _ else _) = _
        rw [if_pos ⟨rfl, Nat.zero_le _, by simpa using hq⟩]; rfl
      have e0 : (Sl.upd r j 0 [.int (s.int j 0), .bool a, Sl.d b, .bool c, Sl.d d]).int j 0 = s.int j 0 := (congrArg D.toI (key 0 (by decide))).trans rfl
      refine ⟨e0, ?_⟩
      have e1 : (Sl.upd r j 0 [.int (s.int j 0), .bool a, Sl.d b, .bool c, Sl.d d]).bool j 1 = a := congrArg D.toB (key 1 (by decide))
      have e2 : (Sl.upd r j 0 [.int (s.int j 0), .bool a, Sl.d b, .bool c, Sl.d d]).sub j 2 = b := congrArg D.toS (key 2 (by decide))
      have e3 : (Sl.upd r j 0 [.int (s.int j 0), .bool a, Sl.d b, .bool c, Sl.d d]).bool j 3 = c := congrArg D.toB (key 3 (by decide))
      have e4 : (Sl.upd r j 0 [.int (s.int j 0), .bool a, Sl.d b, .bool c, Sl.d d]).sub j 4 = d := congrArg D.toS (key 4 (by decide))
      rw [e1, e2, e3, e4]
      exact hf
    · have key : ∀ q : Nat, (Sl.upd r k 0 [.int (s.int k 0), .bool a, Sl.d b, .bool c, Sl.d d]).f j.toNat q = r.f j.toNat q := fun q => by
        show (if _ then _ else _) = _
        rw [if_neg fun h => e (by have := h.1; omega)]
      have old := hk j j0 (by omega)
      unfold Sl.int Sl.bool Sl.sub at *
      simp only [key]
      exact old
  · rw [hj.uniq hi, ← es]
    exact ⟨hr, fun q q0 q1 => hk q q0 (by omega)⟩


end Go.Sx.N
