/-
 Conditions of the scale of a year: its rows' slices are marked. Conditions: none.
-/
import Derived.Test.YtfhjplagjjjlpaaGreatTaxFd
set_option linter.unusedVariables false
set_option linter.unusedSimpArgs false
namespace Go.Sx.N
theorem sameI_mk {b c : Sl} (h : SameI b c) : SameI (Sl.mk1 b) c := by
 refine ⟨h.1, fun i h0 h1 => ?_⟩
 have h1' : i < b.len := h1
 rw [<- h.2 i h0 h1']
 show D.toI (if i.toNat < b.n then b.f i.toNat 0 else .int 777) = _
 rw [if_pos (by unfold Sl.len at h1'; omega)]
 rfl
theorem sameF_mk {a c a' c' : Bool} {b d b' d' : Sl} (h : sameF a b c d a' b' c' d') : sameF a (Sl.mk1 b) c (Sl.mk1 d) a' b' c' d' := ⟨⟨h.1.1, sameI_mk h.1.2⟩, h.2.1, sameI_mk h.2.2⟩
theorem tg_mk1 (b : Sl) : tgD (Sl.d (Sl.mk1 b)) = true := by
 show (match (if b.n < b.n then b.f b.n 0 else D.int 777) with | .int x => x == 777 | _ => false) = true
 rw [if_neg (Nat.lt_irrefl _)]
 rfl
theorem tScale_ok : V_tScale := by
 intro y _ year _ _
 simp only [Bool.decide_eq_true]
 refine ⟨trivial, fun v hv => ⟨fun h => ⟨⟨fun _ => ⟨rfl, rfl⟩, fun k => absurd (hv.2 k) h, fun k => absurd (hv.2 k) h⟩, trivial⟩, fun h => ⟨trivial, fun s _ b hb => ?_⟩⟩⟩
 have vy := hv.1 (Classical.not_not.1 h)
 refine ⟨fun hn => ?_, fun hy sm => ?_⟩
 ·have no := (hb.2 (by simpa using hn)).1
  exact ⟨⟨fun k => absurd vy k, fun _ _ => ⟨rfl, rfl⟩, fun _ i hi => (hi.no no).elim⟩, trivial⟩
 obtain ⟨i, hi, es⟩ := hb.1 (Classical.not_not.1 hy)
 have vs := hi.validS vy
 rw [<- es] at vs
 have l0 := len0 s
 have l20 := vs.1
 refine ⟨l0, Int.le_refl _, by omega, fun _ => ⟨fun k r => 0 <= k /\ k <= s.len /\ r.len = s.len /\ ∀ j : Int, 0 <= j -> j < k -> (r.int j 0 = s.int j 0 /\ sameF (r.bool j 1) (r.sub j 2) (r.bool j 3) (r.sub j 4) (s.bool j 1) (s.sub j 2) (s.bool j 3) (s.sub j 4)) /\ tgD (r.f j.toNat 2) = true /\ tgD (r.f j.toNat 4) = true, fun k _ => (s.len - k).toNat, ⟨by omega, l0, len_rep l0 [], fun j _ _ => by omega⟩, fun k _ r hJ => ?_⟩⟩
 obtain ⟨k0, k1, hr, hk⟩ := hJ
 refine ⟨fun hlt => ⟨k0, hlt, fun _ _ _ => ⟨?_, fun a b _ c d _ hf => ⟨k0, by omega, by rw [rng64]; omega, ⟨by omega, by omega, hr, fun j j0 j1 => ?_⟩, by show (s.len - (k + 1)).toNat < (s.len - k).toNat; omega⟩⟩⟩, fun hge => ⟨fun j hj q hq => ?_, ⟨fun g => absurd vy g, fun _ hno => (hi.no hno).elim, fun _ j hj => ⟨?_, rfl⟩⟩, trivial⟩⟩
 ·have ok := (vs.2.1 k k0 hlt).2.1
  exact ⟨by have := ok.2.1; unfold Lim; omega, by have := ok.2.2; unfold Lim; omega⟩
 ·by_cases e : j = k
  ·subst e
   have key : ∀ q : Nat, q < 5 -> (Sl.upd r j 0 [.int (s.int j 0), .bool a, Sl.d (Sl.mk1 b), .bool c, Sl.d (Sl.mk1 d)]).f j.toNat q = [D.int (s.int j 0), .bool a, Sl.d (Sl.mk1 b), .bool c, Sl.d (Sl.mk1 d)].getD q (.int 0) := fun q hq => by
    show (if _ then _ else _) = _
    rw [if_pos ⟨rfl, Nat.zero_le _, by simpa using hq⟩]; rfl
   refine ⟨⟨(congrArg D.toI (key 0 (by decide))).trans rfl, ?_⟩, (congrArg tgD (key 2 (by decide))).trans (tg_mk1 b), (congrArg tgD (key 4 (by decide))).trans (tg_mk1 d)⟩
   have e1 : (Sl.upd r j 0 [.int (s.int j 0), .bool a, Sl.d (Sl.mk1 b), .bool c, Sl.d (Sl.mk1 d)]).bool j 1 = a := congrArg D.toB (key 1 (by decide))
   have e2 : (Sl.upd r j 0 [.int (s.int j 0), .bool a, Sl.d (Sl.mk1 b), .bool c, Sl.d (Sl.mk1 d)]).sub j 2 = Sl.mk1 b := congrArg D.toS (key 2 (by decide))
   have e3 : (Sl.upd r j 0 [.int (s.int j 0), .bool a, Sl.d (Sl.mk1 b), .bool c, Sl.d (Sl.mk1 d)]).bool j 3 = c := congrArg D.toB (key 3 (by decide))
   have e4 : (Sl.upd r j 0 [.int (s.int j 0), .bool a, Sl.d (Sl.mk1 b), .bool c, Sl.d (Sl.mk1 d)]).sub j 4 = Sl.mk1 d := congrArg D.toS (key 4 (by decide))
   rw [e1, e2, e3, e4]
   exact sameF_mk hf
  ·have key : ∀ q : Nat, (Sl.upd r k 0 [.int (s.int k 0), .bool a, Sl.d (Sl.mk1 b), .bool c, Sl.d (Sl.mk1 d)]).f j.toNat q = r.f j.toNat q := fun q => by
    show (if _ then _ else _) = _
    rw [if_neg fun h => e (by have := h.1; omega)]
   have old := hk j j0 (by omega)
   unfold Sl.int Sl.bool Sl.sub at *
   simp only [key]
   exact old
 ·have := (hk (j : Int) (by omega) (by unfold Sl.len at *; omega)).2
  rw [show ((j : Int)).toNat = j from rfl] at this
  simp only [List.mem_cons, List.not_mem_nil, or_false] at hq
  rcases hq with rfl | rfl
  ·exact this.1
  ·exact this.2
 ·rw [hj.uniq hi, <- es]
  exact ⟨hr, fun q q0 q1 => (hk q q0 (by omega)).1⟩
end Go.Sx.N
