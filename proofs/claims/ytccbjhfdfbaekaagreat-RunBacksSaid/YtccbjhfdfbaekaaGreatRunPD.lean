/-
 The law RunBacks: its condition. Conditions: none.
-/
import Derived.Test.YtccbjhfdfbaekaaGreatNumVRBacks
import Derived.Test.YtccbjhfdfbaekaaGreatRunFd
import Derived.Test.YtccbjhfdfbaekaaGreatRunM
set_option linter.unusedVariables false
set_option linter.unusedSimpArgs false
set_option maxRecDepth 20000
namespace Go.Sx.N
theorem qF {a b : Sl} (h : oU a b) : oU b a := ⟨h.1.symm, fun i i0 i1 => by
 obtain ⟨⟨⟨a0, a1, a2, a3⟩, a4, a5, a6, a7, a8⟩, a9⟩ := h.2 i i0 (by rw [h.1]; exact i1)
 exact ⟨⟨⟨a0.symm, a1.symm, a2.symm, a3.symm⟩, a4.symm, a5.symm, a6.symm, a7.symm, a8.symm⟩, a9.symm⟩⟩
theorem Ag {a b c : Sl} {i j k : Int} (h : lT a i b j) (g : lT b j c k) : lT a i c k := by
 obtain ⟨⟨a0, a1, a2, a3⟩, a4, a5, a6, a7, a8⟩ := h
 obtain ⟨⟨b0, b1, b2, b3⟩, b4, b5, b6, b7, b8⟩ := g
 exact ⟨⟨a0.trans b0, a1.trans b1, a2.trans b2, a3.trans b3⟩, a4.trans b4, a5.trans b5, a6.trans b6, a7.trans b7, a8.trans b8⟩
theorem IG {a b : Sl} {i j : Int} (h : lT a i b j) : lT b j a i := by
 obtain ⟨⟨a0, a1, a2, a3⟩, a4, a5, a6, a7, a8⟩ := h
 exact ⟨⟨a0.symm, a1.symm, a2.symm, a3.symm⟩, a4.symm, a5.symm, a6.symm, a7.symm, a8.symm⟩
theorem Eo {a b c : Sl} (h : oU a b) (g : oU b c) : oU a c := ⟨h.1.trans g.1, fun i i0 i1 => by
 have x := h.2 i i0 i1
 have y := g.2 i i0 (by rw [<- h.1]; exact i1)
 exact ⟨Ag x.1 y.1, x.2.trans y.2⟩⟩
theorem MN {st : Int} {d p : Sl} {mo g t : Int} {l l2 : Sl} (h : oU l2 l) (hv : dU st d p mo g t l) : dU st d p mo g t l2 := by
 refine ⟨⟨hv.1.1, by rw [h.1]; exact hv.1.2⟩, hv.2.1, fun i i0 i1 => ?_⟩
 have o := hv.2.2 i i0 (by rw [<- h.1]; exact i1)
 obtain ⟨⟨⟨a0, a1, a2, a3⟩, a4, a5, a6, a7, a8⟩, _⟩ := h.2 i i0 i1
 have pv : ∀ (j : Nat) (x0 : Int), (j = 0 \/ j = 4 \/ j = 3) -> bI l2 j x0 i = bI l j x0 i := fun j x0 hj => by
  unfold bI
  by_cases e : i = 0
  ·rw [if_pos e, if_pos e]
  ·rw [if_neg e, if_neg e]
   have r := (h.2 (i - 1) (by omega) (by omega)).1
   rcases hj with rfl | rfl | rfl
   ·exact r.1.1
   ·exact r.2.1
   ·exact r.1.2.2.2
 unfold gY at o ⊢
 rw [pv 0 _ (.inl rfl), pv 4 _ (.inr (.inl rfl)), pv 3 _ (.inr (.inr rfl)), a0, a4, a2, a3, a6, a7]
 exact o
theorem II {l l2 : Sl} (h : oU l2 l) {num i : Int} (k : jv l num i) : jv l2 num i := by
 obtain ⟨i0, i1, h4, h9⟩ := k
 have e := h.2 i i0 (by rw [h.1]; exact i1)
 exact ⟨i0, by rw [h.1]; exact i1, by rw [e.1.2.1]; exact h4, fun g => h9 (e.2.1 g)⟩
theorem GL {st : Int} {d p : Sl} {mo g t : Int} {l : Sl} {st' : Int} {d' p' : Sl} {bQ g' t' : Int} {l' : Sl} (h : Dq st d p mo g t l) (k : Dq st' d' p' bQ g' t' l') : Qu st d p mo g t l st' d' p' bQ g' t' l' := by
 obtain ⟨⟨a0, a1, a2⟩, a3, a4, a5, a6⟩ := h
 obtain ⟨⟨b0, b1, b2⟩, b3, b4, b5, b6⟩ := k
 exact ⟨⟨a0.trans b0.symm, ⟨a1.trans b1.symm, fun i i0 i1 => by omega⟩, ⟨a2.trans b2.symm, fun i i0 i1 => by omega⟩⟩, ⟨a3.trans b3.symm, a4.trans b4.symm, a5.trans b5.symm⟩, ⟨a6.trans b6.symm, fun i i0 i1 => by omega⟩⟩
theorem aes {st : Int} {d p q : Sl} {s1 : Int} {d1 p1 : Sl} {e1 s2 : Int} {d2 p2 : Sl} {e2 : Int} (h : aU st d p q s1 d1 p1 e1) (k : aU st d p q s2 d2 p2 e2) : e1 = e2 /\ (e1 = 0 -> (s1 = st /\ s2 = st) /\ uO d1 d2 /\ dY p1 p2) := by
 by_cases c : ng st d p q
 ·obtain ⟨ha, hb⟩ := h.2 c
  obtain ⟨ka, kb⟩ := k.2 c
  rcases Int.lt_or_le 4000 (p.len + q.len) with g | g
  ·rw [(ha g).1, (ka g).1]
   exact ⟨rfl, fun h => absurd h (by decide)⟩
  ·obtain ⟨x1, x2, x3, x4⟩ := hb g
   obtain ⟨y1, y2, y3, y4⟩ := kb g
   refine ⟨x1.trans y1.symm, fun _ => ⟨⟨x2, y2⟩, ⟨x3.1.trans y3.1.symm, fun i i0 i1 => (x3.2 i i0 i1).trans (y3.2 i i0 (by rw [y3.1, <- x3.1]; exact i1)).symm⟩, ⟨x4.1.trans y4.1.symm, fun i i0 i1 => ?_⟩⟩⟩
   have eqT : ∀ {a b c : Sl} {i j k : Int}, uP a i b j -> uP c k b j -> uP a i c k := fun h g => ⟨h.1.trans g.1.symm, h.2.1.trans g.2.1.symm, h.2.2.1.trans g.2.2.1.symm, h.2.2.2.trans g.2.2.2.symm⟩
   have p0 := len0 p
   have l4 := x4.1
   by_cases c2 : i < p.len
   ·exact eqT (x4.2.1 i i0 c2) (y4.2.1 i i0 c2)
   ·have a := x4.2.2 (i - p.len) (by omega) (by omega)
    have b := y4.2.2 (i - p.len) (by omega) (by omega)
    rw [show p.len + (i - p.len) = i by omega] at a b
    exact eqT a b
 ·rw [(h.1 c).1, (k.1 c).1]
  exact ⟨rfl, fun h => absurd h (by decide)⟩
theorem Y3 {st : Int} {d p : Sl} {mo g t : Int} {l l2 : Sl} {num day : Int} (hl : oU l2 l) {s1 : Int} {d1 p1 : Sl} {Ux g1 t1 : Int} {l1 : Sl} {e1 s3 : Int} {d3 p3 : Sl} {mo3 g3 t3 : Int} {l3 : Sl} {e3 : Int}
  (h : gB st d p mo g t l num day s1 d1 p1 Ux g1 t1 l1 e1) (k : gB st d p mo g t l2 num day s3 d3 p3 mo3 g3 t3 l3 e3) : e1 = e3 /\ Qu s1 d1 p1 Ux g1 t1 l1 s3 d3 p3 mo3 g3 t3 l3 := by
 by_cases hV : dU st d p mo g t l
 ·obtain ⟨ha, hb⟩ := h.2 hV
  obtain ⟨ka, kb⟩ := k.2 (MN hl hV)
  by_cases hn : SL l num
  ·obtain ⟨x, y⟩ := ha hn
   obtain ⟨x', y'⟩ := ka fun i hi => hn i (II (qF hl) hi)
   exact ⟨x.trans x'.symm, GL y y'⟩
  ·obtain ⟨n, hn⟩ := Classical.not_forall.1 hn
   have hn := Classical.not_not.1 hn
   obtain ⟨s, dd, pp, e, hq, f1, f2⟩ := hb n hn
   obtain ⟨s', dd', pp', e', hq', f1', f2'⟩ := kb n (II hl hn)
   obtain ⟨n0, n1, _⟩ := hn
   have hs := (hl.2 n n0 (by rw [hl.1]; exact n1)).1
   rw [hs.1.2.2.1, hs.1.2.2.2] at hq'
   obtain ⟨ee, dt⟩ := aes hq hq'
   subst ee
   by_cases z : e = 0
   ·obtain ⟨⟨z1, z2⟩, zd, zp⟩ := dt z
    obtain ⟨x1, x2, x3, x4, x5, x6⟩ := f2 z
    obtain ⟨y1, y2, y3, y4, y5, y6⟩ := f2' z
    refine ⟨x1.trans y1.symm, ⟨x2.trans y2.symm, ⟨(x3.1.trans zd.1).trans y3.1.symm, fun i i0 i1 => ?_⟩, ⟨(x4.1.trans zp.1).trans y4.1.symm, fun i i0 i1 => ?_⟩⟩, ?_, ⟨(x5.1.trans hl.1.symm).trans y5.1.symm, fun i i0 i1 => ?_⟩⟩
    ·have a := x3.1
     have b := zd.1
     have c := y3.1
     exact ((x3.2 i i0 i1).trans (zd.2 i i0 (by omega))).trans (y3.2 i i0 (by omega)).symm
    ·have a := x4.1
     have b := zp.1
     have c := y4.1
     obtain ⟨u0, u1, u2, u3⟩ := x4.2 i i0 i1
     obtain ⟨v0, v1, v2, v3⟩ := zp.2 i i0 (by omega)
     obtain ⟨w0, w1, w2, w3⟩ := y4.2 i i0 (by omega)
     exact ⟨(u0.trans v0).trans w0.symm, (u1.trans v1).trans w1.symm, (u2.trans v2).trans w2.symm, (u3.trans v3).trans w3.symm⟩
    ·obtain ⟨q1, q2, q3⟩ := x6
     obtain ⟨r1, r2, r3⟩ := y6
     rw [hs.1.1, hs.2.2.2.1, hs.2.2.2.2.1] at r2
     rw [hs.1.1] at r3
     refine ⟨q1.trans r1.symm, ?_⟩
     by_cases c : mo / 12 = l.int n 0 / 12
     ·exact ⟨(q2 c).1.trans (r2 c).1.symm, (q2 c).2.trans (r2 c).2.symm⟩
     ·exact ⟨(q3 c).1.trans (r3 c).1.symm, (q3 c).2.trans (r3 c).2.symm⟩
    ·have a := x5.1
     have b := hl.1
     obtain ⟨u, u'⟩ := x5.2 i i0 (by omega)
     obtain ⟨v, v'⟩ := y5.2 i i0 (by omega)
     have w := hl.2 i i0 (by omega)
     refine ⟨Ag u (Ag (IG w.1) (IG v)), ?_⟩
     rw [u', v', w.2]
   ·obtain ⟨x, y⟩ := f1 z
    obtain ⟨x', y'⟩ := f1' z
    exact ⟨x.trans x'.symm, GL y y'⟩
 ·obtain ⟨x, y⟩ := h.1 hV
  obtain ⟨x', y'⟩ := k.1 fun g => hV (MN (qF hl) g)
  exact ⟨x.trans x'.symm, GL y y'⟩
theorem Y4 {st : Int} {d p : Sl} {mo g t : Int} {l : Sl} {num day : Int} {s1 : Int} {d1 p1 : Sl} {Ux g1 t1 : Int} {l1 : Sl} {e1 : Int} (h : gB st d p mo g t l num day s1 d1 p1 Ux g1 t1 l1 e1) : l1.len = 0 \/ l1.len = l.len := by
 by_cases hV : dU st d p mo g t l
 ·obtain ⟨ha, hb⟩ := h.2 hV
  by_cases hn : SL l num
  ·exact .inl (ha hn).2.2.2.2.2
  ·obtain ⟨n, hn⟩ := Classical.not_forall.1 hn
   obtain ⟨s, dd, pp, e, hq, f1, f2⟩ := hb n (Classical.not_not.1 hn)
   by_cases z : e = 0
   ·exact .inr (f2 z).2.2.2.2.1.1
   ·exact .inl (f1 z).2.2.2.2.2
 ·exact .inl (h.1 hV).2.2.2.2.2
theorem Y5 : Kt := by
 intro st _ d _ p _ mo _ g _ t _ l _ num _ day _ _
 simp only [Bool.decide_eq_true]
 refine ⟨trivial, fun b hb => ⟨fun _ => ⟨trivial, fun b hb => ⟨hb, trivial⟩⟩, fun h => ?_⟩⟩
 obtain ⟨⟨hd, hp, hl, _⟩, _⟩ := hb (Classical.not_not.1 h)
 refine ⟨⟨by omega, by omega, by omega⟩, fun st0 _ d0 _ p0 _ mo0 _ g0 _ t0 _ l0 _ hc => ⟨trivial, fun st1 _ d1 _ p1 _ Ux _ g1 _ t1 _ l1 _ e1 _ h1 => ⟨trivial, fun st2 _ d2 _ p2 _ mo2 _ g2 _ t2 _ l2 _ e2 _ h2 => ?_⟩⟩⟩
 obtain ⟨⟨rfl, rfl, rfl⟩, ⟨rfl, rfl, rfl⟩, hs⟩ := (show LC st d p mo g t l st0 d0 p0 mo0 g0 t0 l0 from hc)
 obtain ⟨ee, hsame⟩ := Y3 hs h1 h2
 have l1n := len0 l1
 have p1n := len0 p1
 have l2b : l2.len <= 1000000 := by
  rcases Y4 h2 with k | k
  ·omega
  ·rw [k, hs.1]; omega
 refine ⟨fun k => absurd ee k, fun _ => ⟨l2b, fun st3 _ d3 _ p3 _ mo3 _ g3 _ t3 _ l3 _ hb => ⟨trivial, fun b2 hb2 => ⟨fun k => ?_, fun _ hsp => ?_⟩⟩⟩⟩
 ·obtain ⟨⟨rfl, rfl, rfl⟩, ⟨rfl, rfl, rfl⟩, hs3⟩ := (show LC st2 d2 p2 mo2 g2 t2 l2 st3 d3 p3 mo3 g3 t3 l3 from hb)
  exact absurd (hb2.2 ⟨hsame.1, hsame.2.1, Eo hsame.2.2 (qF hs3)⟩) k
 have hsp := iO hsp
 refine ⟨fun i _ _ pp _ _ _ _ => (0 <= i /\ i <= p1.len) /\ pp.len = p1.len, fun i _ _ _ _ _ _ _ => (p1.len - i).toNat, ⟨⟨by omega, p1n⟩, rfl⟩, fun i ri x2 _ x3 _ x4 _ x5 _ x6 _ x7 _ x8 _ hJ => ?_⟩
 obtain ⟨⟨i0, i1⟩, hpp⟩ := hJ
 refine ⟨fun hlt => ⟨i0, by omega, fun _ => ⟨i0, by omega, ?_⟩⟩, fun _ hsl => ?_⟩
 ·rw [L.wrap64 (by omega) (by omega)]
  exact ⟨⟨⟨by omega, by omega⟩, hpp⟩, by show (p1.len - (i + 1)).toNat < (p1.len - i).toNat; omega⟩
 have hsl := iO hsl
 have x8n := len0 x8
 refine ⟨fun k _ _ _ _ _ _ ll => (0 <= k /\ k <= x8.len) /\ ll.len = x8.len, fun k _ _ _ _ _ _ _ => (x8.len - k).toNat, ⟨⟨by omega, x8n⟩, rfl⟩, fun k rk y2 _ y3 _ y4 _ y5 _ y6 _ y7 _ y8 _ hJ => ?_⟩
 obtain ⟨⟨k0, k1⟩, hll⟩ := hJ
 refine ⟨fun hlt => ⟨k0, by omega, fun _ => ⟨k0, by omega, ?_⟩⟩, fun _ => ⟨by show l0.len <= 1000000; rw [hs.1]; omega, fun VJ _ d4 _ p4 _ mo4 _ g4 _ t4 _ l4 _ hb4 => ⟨trivial, fun b3 hb3 => ⟨fun _ => ⟨trivial, fun b hb => ⟨hb, trivial⟩⟩, fun k => ?_⟩⟩⟩⟩
 ·rw [L.wrap64 (by omega) (by omega)]
  exact ⟨⟨⟨by omega, by omega⟩, hll⟩, by show (x8.len - (k + 1)).toNat < (x8.len - k).toNat; omega⟩
 ·obtain ⟨⟨rfl, rfl, rfl⟩, ⟨rfl, rfl, rfl⟩, hs4⟩ := (show LC _ _ _ _ _ _ l0 VJ d4 p4 mo4 g4 t4 l4 from hb4)
  refine absurd (hb3.2 ⟨⟨rfl, ⟨rfl, fun _ _ _ => rfl⟩, gZ _⟩, ⟨rfl, rfl, rfl⟩, Eo (qF hs) (qF hs4)⟩) k
end Go.Sx.N
