/-
 What a run that goes well tells of its arguments and its slip; what is refused. Conditions: none.
-/
import Derived.Test.YtccbjhfdfbaekaaGreatRunM
set_option linter.unusedVariables false
set_option linter.unusedSimpArgs false
namespace Go.Sx.N
theorem pay_refused {I : PIn} {o : POut} (h : I.pay o) (hb : ¬ I.argsOk) : o.e = 2 := by
 by_cases hv : validR I.st I.d I.p I.mo I.g I.t I.l
 ·obtain ⟨c, hc, c1, _⟩ := h.2 hv
  have e := hc.1 hb
  rw [(c1 (by omega)).1, e]
 ·exact (h.1 hv).1
theorem pay_good {I : PIn} {o : POut} (h : I.pay o) (he : o.e = 0) : validR I.st I.d I.p I.mo I.g I.t I.l /\ I.argsOk /\ ∃ d4 p4 G r mo g t, I.result d4 p4 G r mo g t o := by
 have no : ∀ {e : Int}, o.err e -> e = 0 := fun k => k.1.symm.trans he
 have hv : validR I.st I.d I.p I.mo I.g I.t I.l := Classical.byContradiction fun k => absurd (no (h.1 k)) (by decide)
 have ha : I.argsOk := Classical.byContradiction fun k => absurd ((pay_refused h k).symm.trans he) (by decide)
 refine ⟨hv, ha, ?_⟩
 obtain ⟨c, hc, c1, c2⟩ := h.2 hv
 have c0 : c = 0 := Classical.byContradiction fun k => k (no (c1 k))
 obtain ⟨c3, c4⟩ := c2 c0
 have hk : I.us.len <= 1200 := by
  rcases Int.lt_or_le 1200 I.us.len with k | k
  ·exact absurd (no (c3 k)) (by decide)
  ·exact k
 obtain ⟨d1, p1, _, st2, d2, p2, e, _, e1, e2⟩ := c4 hk
 have e0 : e = 0 := Classical.byContradiction fun k => k (no (e1 k))
 obtain ⟨n, eo, _, f1, f2⟩ := e2 e0
 have f0 : eo = 0 := Classical.byContradiction fun k => k (no (f1 k))
 obtain ⟨g1, g2, g3⟩ := f2 f0
 have hr : ∃ d3 p3, I.recover d3 p3 o := by
  rcases Int.lt_or_le 0 n with k | k
  ·rcases Int.lt_or_le 1099511627776 n with k2 | k2
   ·exact absurd (no (g2 k2)) (by decide)
   ·obtain ⟨st3, d3, p3, e3, _, i1, i2⟩ := g3 k k2
    have i0 : e3 = 0 := Classical.byContradiction fun k => k (no (i1 k))
    exact ⟨d3, p3, i2 i0⟩
  ·exact ⟨d2, p2, g1 k⟩
 obtain ⟨d3, p3, st4, d4, p4, e4, _, j1, j2⟩ := hr
 have j0 : e4 = 0 := Classical.byContradiction fun k => k (no (j1 k))
 obtain ⟨k1, k2, k3⟩ := j2 j0
 have hg : amt (I.grossOf p4) := ⟨by
  rcases Int.lt_or_le (I.grossOf p4) 0 with k | k
  ·exact absurd (no (k1 k)) (by decide)
  ·exact k, by
  rcases Int.lt_or_le 1099511627776 (I.grossOf p4) with k | k
  ·exact absurd (no (k2 k)) (by decide)
  ·exact k⟩
 obtain ⟨r, mo, g, t, e5, _, l1, l2⟩ := k3 hg
 have l0 : e5 = 0 := Classical.byContradiction fun k => k (no (l1 k))
 obtain ⟨m1, m2⟩ := l2 l0
 rcases Int.lt_or_le 1099511627776 r with k | k
 ·exact absurd (no (m1 k)) (by decide)
 ·exact ⟨d4, p4, _, r, mo, g, t, m2 k⟩
theorem last_app (l r : Sl) (hr : r.len = 1) (j : Nat) : (if 0 < (Sl.app l r).len then (Sl.app l r).int ((Sl.app l r).len - 1) j else -1) = r.int 0 j := by
 have l0 := len0 l
 have e : (Sl.app l r).len = l.len + 1 := by rw [len_app, hr]
 rw [if_pos (by omega), e, int_app_ge (by omega), show l.len + 1 - 1 - l.len = 0 by omega]
theorem pay_last {I : PIn} {o : POut} (h : I.pay o) (he : o.e = 0) : (if 0 < o.l.len then o.l.int (o.l.len - 1) 0 else -1) = I.month /\ (if 0 < o.l.len then o.l.int (o.l.len - 1) 4 else -1) = I.num := by
 obtain ⟨_, _, d4, p4, G, r, mo, g, t, hr⟩ := pay_good h he
 have e := hr.2.2.2.2.2
 rw [e]
 exact ⟨last_app _ _ rfl 0, last_app _ _ rfl 4⟩
end Go.Sx.N
