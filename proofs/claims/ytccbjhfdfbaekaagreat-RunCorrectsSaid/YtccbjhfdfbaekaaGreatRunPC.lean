/-
 The law RunCorrects: its condition. Conditions: none.
-/
import Derived.Test.YtccbjhfdfbaekaaGreatNumVRCorr
import Derived.Test.YtccbjhfdfbaekaaGreatRunM
set_option linter.unusedVariables false
set_option linter.unusedSimpArgs false
set_option maxRecDepth 20000
namespace Go.Sx.N
theorem Xj {a c : Bool} {b f : Sl} (h : pq 1 1 a b c f) : kX a b c f /\ fq a b f = 1 := by
 obtain ⟨h1, h2, h3⟩ := h
 have e : fq a b f = 1 := by rw [h1.fq]; unfold sQ; rw [if_neg (by decide)]; rfl
 refine ⟨⟨⟨h1.sO, by omega, by omega⟩, ?_, ?_⟩, e⟩
 ·rw [e]; grind
 ·rw [e]; exact Rat.le_refl
theorem acz {q : Rat} (h : q = 1) {x : Int} (x0 : 0 <= x) (x1 : x <= 1099511627776) : x = (q * (x : Rat)).floor /\ dH (q * (x : Rat)) := by
 rw [h, Rat.one_mul]
 exact ⟨(Rat.floor_intCast x).symm, Io (by omega) (by omega)⟩
theorem Uj (a b : Int) : goes a b 0 = 0 := by unfold goes; split <;> rfl
set_option maxHeartbeats 1000000 in
theorem ag4 {m a b c : Int} (hm : 0 <= m /\ m <= 2100) (ha : 0 <= a /\ a <= 4294967295) (hb : 0 <= b /\ b <= 4294967295) (hc : 0 <= c /\ c <= 4294967295)
  {u1 w1 : Bool} {v1 x1 : Sl} (p1 : pq 1 1 u1 v1 w1 x1) {es1 : Sl} {ac1 nu1 : Int} {a1 c1 : Bool} {b1 f1 : Sl} {na1 : ByteArray} {tw1 : Bool} {Uc ys1 : Sl} {kn1 : Int} {o1 : qH}
  (n1 : fA m (Sl.lit [[.int a]]) es1) (s1 : jC 1 u1 v1 w1 x1 ac1 nu1 a1 b1 c1 f1 na1 tw1 Uc ys1 kn1) (h1 : jR.pay ⟨m, Sl.nil, Sl.nil, 0, 0, 0, Sl.nil, es1, 10, m, ac1, nu1, a1, b1, c1, f1, na1, tw1, Uc, ys1, kn1⟩ o1)
  {u2 w2 : Bool} {v2 x2 : Sl} (p2 : pq 1 1 u2 v2 w2 x2) {es2 : Sl} {ac2 nu2 : Int} {a2 c2 : Bool} {b2 f2 : Sl} {na2 : ByteArray} {tw2 : Bool} {WY ys2 : Sl} {kn2 : Int} {o2 : qH}
  (n2 : fA m (Sl.lit [[.int b], [.int c]]) es2) (s2 : jC 2 u2 v2 w2 x2 ac2 nu2 a2 b2 c2 f2 na2 tw2 WY ys2 kn2) (h2 : jR.pay ⟨o1.st, o1.d, o1.p, o1.mo, o1.g, o1.t, o1.l, es2, 20, m + 1, ac2, nu2, a2, b2, c2, f2, na2, tw2, WY, ys2, kn2⟩ o2)
  : (o1.e = 0 /\ o2.e = 0) /\ o2.aO = imax (c + b - a) 0 /\ (∀ pd ep, MN o2.st o2.d o2.p o2.mo o2.g o2.t o2.l pd ep -> pd = b + c + imax (a - b - c) 0 /\ ep = 0) /\ ∀ lf el, tK o2.st o2.d o2.p (m + 2) lf el -> lf = imax (a - b - c) 0 /\ el = 0 := by
 obtain ⟨rfl, rfl, ⟨rfl, rfl, rfl, rfl⟩, z1, y1, rfl⟩ := s1
 obtain ⟨rfl, rfl, ⟨rfl, rfl, rfl, rfl⟩, z2, y2, rfl⟩ := s2
 obtain ⟨sh1, q1⟩ := Xj p1
 obtain ⟨sh2, q2⟩ := Xj p2
 obtain ⟨l1a, l1b⟩ := acz q1 ha.1 (by omega : a <= 1099511627776)
 obtain ⟨l2a, l2b⟩ := acz q2 hc.1 (by omega : c <= 1099511627776)
 have V0 : jq m Sl.nil Sl.nil 0 0 0 Sl.nil := ⟨⟨⟨⟨hm.1, by omega, by decide, by rw [len_nil]; omega⟩, fun i i0 i1 => by rw [len_nil] at i1; omega, by decide, fun i i0 i1 => by rw [len_nil] at i1; omega⟩, by decide⟩, ⟨⟨by decide, by decide⟩, ⟨by decide, by decide⟩, ⟨by decide, by decide⟩⟩, fun i i0 i1 => by rw [len_nil] at i1; omega⟩
 have im0 : bH 0 a = 0 := by unfold bH; split <;> omega
 obtain ⟨e1, t1, v1, ⟨PG, dv1⟩, bh1, ld1, pl1, ⟨m1, g1, x1⟩, ⟨gr1, tx1, nt1, nm1⟩, sl1⟩ := Ip h1 V0 n1 (by show (1 : Int) = m - m + 1; omega) ⟨Int.le_refl _, by omega⟩ (by show (1 : Int) <= 1200; decide) (by decide) (by show (-1 : Int) < m; omega) (fun k k0 k1 => by
   have e : k = 0 := by have : k < 1 := k1; omega
   subst e
   exact ⟨ha.1, by show a <= _; omega⟩) (by decide) z1 ⟨by decide, by decide, by decide⟩ (by decide) sh1 0 0 0 0 a a 0 a rfl (by rw [Int.sub_self]; rfl)
  ⟨Int.le_refl _, Int.le_refl _, by decide, fun _ => rfl⟩ ⟨Int.le_refl _, Int.le_refl _, by decide, fun _ => rfl⟩ (fun _ => .inl rfl) (fun k k0 k1 => by omega) l1a l1b y1 ⟨by decide, by decide⟩ hm.1 (by rw [im0]; omega) ⟨ha.1, by omega⟩ (by rw [Uj]; omega) (by rw [Uj]; exact Int.le_refl _)
 rw [im0, show fU ((0 : Int) < 0) _ = [] from rfl, show fU ((0 : Int) < 0) _ = [] from rfl, List.nil_append, List.append_nil] at bh1
 have pn1 : o1.p.len <= 1 := by
  have := aaw (0 < a) [.int 10, .int m, .int 1, .int a]
  rw [bh1.1]
  show (0 : Int) + ((fU (0 < a) [.int 10, .int m, .int 1, .int a]).length : Int) <= 1
  omega
 have P1 : ∀ mo, aU o1.p mo = if m = mo then a else 0 := fun mo => by
  rw [ji bh1, uo, if_neg (show ¬ (1 : Int) = 3 by decide)]
  show (0 : Int) + _ = _
  (repeat' split) <;> omega
 rw [Uj, Int.zero_add] at g1
 have T1 : o1.t = 0 := by rw [x1, Int.mul_zero]; rfl
 have tx1 : o1.nD = 0 := by rw [tx1, T1, Uj]; rfl
 have sl1 : o1.l = Sl.lit [[.int m, .int 10, .int 0, .int o1.p.len, .int 1, .int 7, .int a, .int 0, .int (a - 0), .bool (decide False)]] := by rw [sl1, JK, tx1]; rfl
 rw [t1, m1, g1, T1, sl1] at h2 v1
 have PG : o1.d.len = 1 := by rw [PG, len_nil]; unfold imax; split <;> omega
 have hX : ∃ X, X = imax (b - a) 0 := ⟨_, rfl⟩
 have hY : ∃ Y, Y = imax (a - b) 0 := ⟨_, rfl⟩
 obtain ⟨X, hX⟩ := hX
 obtain ⟨Y, hY⟩ := hY
 have XY : (0 <= X /\ X <= 4294967295) /\ (0 <= Y /\ Y <= 4294967295) /\ (X = 0 \/ Y = 0) /\ b = a + X - Y := by
  rw [hX, hY]; unfold imax; (repeat' split) <;> omega
 obtain ⟨X0, Y0, XY, bb⟩ := XY
 have hR : ∃ R, R = bH Y c := ⟨_, rfl⟩
 obtain ⟨R, hR⟩ := hR
 have R0 : (0 <= R /\ R <= c /\ R <= Y) /\ (R = Y \/ R = c) := by rw [hR]; unfold bH; split <;> omega
 have gb : 0 <= goes m (m + 1) a /\ goes m (m + 1) a <= a := by unfold goes; split <;> omega
 obtain ⟨e2, t2, v2, ⟨dl2, dv2⟩, Ud, ld2, pl2, ⟨m2, g2, x2⟩, ⟨gr2, tx2, nt2, nm2⟩, sl2⟩ := Ip h2 v1 n2 (by show (2 : Int) = m + 1 - m + 1; omega) ⟨by omega, by omega⟩ (by show (2 : Int) <= 1200; decide) (by show (1 : Int) < 2; decide) (by show m < m + 1; omega) (fun k k0 k1 => by
   have e : k = 0 \/ k = 1 := by have : k < 2 := k1; omega
   rcases e with rfl | rfl
   ·exact ⟨hb.1, by show b <= _; omega⟩
   ·exact ⟨hc.1, by show c <= _; omega⟩) (by show (1 : Int) < 1200; decide) z2 ⟨by omega, by decide, by decide⟩ (by omega) sh2 0 X 0 Y c c 0 (X + c - R) (by rw [P1, if_neg (by omega)]) (by rw [show m + 1 - m = 1 by omega]; rfl)
  ⟨Int.le_refl _, X0.1, by omega, fun k => by omega⟩ ⟨Int.le_refl _, Y0.1, by omega, fun k => by omega⟩ (fun _ => XY) (fun k k0 k1 => by
   have e : k = 0 := by omega
   subst e
   rw [Int.add_zero, P1, if_pos rfl, if_pos rfl, if_pos rfl]
   show b = _
   omega) l2a l2b y2 ⟨by decide, by decide⟩ (by omega) (by rw [hR]) ⟨by omega, by omega⟩ (by omega) (by rw [Uj]; exact Int.le_refl _)
 rw [<- hR] at Ud
 have P2 : ∀ mo, aU o2.p mo = (if m = mo then a else 0) + ((if 0 < X /\ m + 0 = mo then X else 0) + (if 0 < c /\ m + 1 = mo then c else 0) + (if 0 < R /\ m + 0 = mo then -R else 0)) := fun mo => by
  rw [ji Ud, P1, <- oN, ji (JH _ _), <- oN, ji (JH _ _), uo, uo, uo, if_neg (show ¬ (2 : Int) = 3 by decide), if_neg (show ¬ (1 : Int) = 3 by decide), if_neg (show ¬ (4 : Int) = 3 by decide)]
 have Pm : aU o2.p (m + 0) = a + X - R := by
  rw [P2, if_pos (by omega), if_neg (show ¬ (0 < c /\ m + 1 = m + 0) by omega)]
  by_cases k : 0 < X
  ·rw [if_pos ⟨k, rfl⟩]
   by_cases k2 : 0 < R
   ·rw [if_pos ⟨k2, rfl⟩]; omega
   ·rw [if_neg (fun h => k2 h.1)]; omega
  ·rw [if_neg (fun h => k h.1)]
   by_cases k2 : 0 < R
   ·rw [if_pos ⟨k2, rfl⟩]; omega
   ·rw [if_neg (fun h => k2 h.1)]; omega
 have Pn : aU o2.p (m + 1) = c := by
  rw [P2, if_neg (by omega), if_neg (show ¬ (0 < X /\ m + 0 = m + 1) by omega), if_neg (show ¬ (0 < R /\ m + 0 = m + 1) by omega)]
  by_cases k : 0 < c
  ·rw [if_pos ⟨k, rfl⟩]; omega
  ·rw [if_neg (fun h => k h.1)]; omega
 have vo : aJ o2.st o2.d o2.p := v2.1.1
 have D : o2.d.len = 2 /\ o2.d.int 0 0 = b /\ o2.d.int 1 0 = c := ⟨by rw [dl2, PG]; unfold imax; split <;> omega, dv2 0 (by decide) (by omega), dv2 1 (by decide) (by omega)⟩
 refine ⟨⟨e1, e2⟩, by rw [gr2]; unfold imax; split <;> omega, fun pd ep hp => ?_, fun lf el ho => ?_⟩
 ·obtain ⟨hpd, hep⟩ := hp.2 v2
  refine ⟨?_, hep⟩
  have pd0 : pd = a + (X + c - R) := by
   rw [hpd, sl2]
   show sumTo _ ((1 : Nat) + 1) = _
   show (0 : Int) + a + (X + c - R) = _
   omega
  rw [pd0]
  unfold imax; split <;> omega
 ·obtain ⟨hlf, hel⟩ := ho.2 vo
  refine ⟨?_, hel⟩
  rw [hlf]
  unfold ZR
  have dn : o2.d.n = 2 := by have := D.1; unfold Sl.len at this; omega
  rw [dn, t2]
  show (0 : Int) + (if m + 0 < m + 2 then mP (ov m o2.d o2.p 0) else 0) + (if m + 1 < m + 2 then mP (ov m o2.d o2.p 1) else 0) = _
  rw [if_pos (by omega), if_pos (by omega)]
  unfold ov
  rw [Pm, Pn, D.2.1, D.2.2]
  unfold mP imax
  (repeat' split) <;> omega
theorem aj1 : VH := by
 intro x0 r0 x1 r1 x2 r2 x3 r3 _
 have r0 : 0 <= x0 /\ x0 <= 65535 := r0
 have r1 : 0 <= x1 /\ x1 <= 4294967295 := r1
 have r2 : 0 <= x2 /\ x2 <= 4294967295 := r2
 have r3 : 0 <= x3 /\ x3 <= 4294967295 := r3
 simp only [Bool.decide_eq_true]
 have em : Int.tmod x0 2101 = x0 % 2101 := Int.tmod_eq_emod_of_nonneg r0.1
 rw [em]
 have m0 : 0 <= x0 % 2101 /\ x0 % 2101 <= 2100 := by omega
 generalize x0 % 2101 = m at *
 refine ⟨by decide, by rw [ay]; omega, ⟨⟨m0.1, by omega⟩, by show (1 : Int) <= 100000; decide⟩, fun es1 _ n1 => ⟨trivial, fun u1 v1 _ w1 z1 _ p1 => ⟨trivial, fun ac1 _ nu1 _ a1 b1 _ c1 f1 _ na1 tw1 Uc _ ys1 _ kn1 _ s1 => ⟨⟨wG s1, by rw [n1.1]; show (1 : Int) <= 1000000; decide⟩, fun ot1 _ od1 _ op1 _ om1 _ og1 _ ou1 _ ol1 _ q11 _ q12 _ q13 _ q14 _ q15 _ q16 _ q17 _ q18 _ q19 _ q10 oe1 _ h1 => ⟨by rw [ay]; omega, ⟨⟨m0.1, by omega⟩, by show (2 : Int) <= 100000; decide⟩, fun es2 _ n2 => ⟨trivial, fun u2 v2 _ w2 z2 _ p2 => ⟨trivial, fun ac2 _ nu2 _ a2 b2 _ c2 f2 _ na2 tw2 WY _ ys2 _ kn2 _ s2 => ⟨⟨wG s2, by rw [n2.1]; show (2 : Int) <= 1000000; decide⟩, fun ot2 _ od2 _ op2 _ om2 _ og2 _ ou2 _ ol2 _ q21 _ q22 _ q23 _ q24 _ q25 _ q26 _ q27 _ q28 _ q29 _ q20 oe2 _ h2 => ?_⟩⟩⟩⟩⟩⟩⟩⟩
 obtain ⟨⟨g1, g2⟩, g3, g4, g5⟩ := ag4 m0 r1 r2 r3 p1 n1 s1 (o1 := ⟨ot1, od1, op1, om1, og1, ou1, ol1, q11, q12, q13, q14, q15, q16, q17, q18, q19, q10, oe1⟩) h1 p2 n2 s2 (o2 := ⟨ot2, od2, op2, om2, og2, ou2, ol2, q21, q22, q23, q24, q25, q26, q27, q28, q29, q20, oe2⟩) h2
 dsimp only at g1 g2 g3 g4 g5
 refine ⟨fun k => absurd g1 k, fun _ => ⟨fun k => absurd g2 k, fun _ => ⟨trivial, fun pd _ ep _ hp => ⟨by rw [ay]; omega, trivial, fun lf _ el _ ho => ?_⟩⟩⟩⟩
 obtain ⟨i1, i2⟩ := g4 pd ep hp
 obtain ⟨j1, j2⟩ := g5 lf el ho
 have lb : 0 <= lf /\ lf <= 4294967295 := by rw [j1]; unfold imax; split <;> omega
 refine ⟨by rw [ay]; omega, by rw [ay]; omega, fun _ => ⟨fun _ => ⟨fun _ => ⟨by rw [ay]; omega, by rw [ay]; omega, fun _ => ⟨by rw [ay]; omega, by rw [ay]; omega, fun _ => ⟨trivial, fun b hb => ⟨hb, trivial⟩⟩, fun k => absurd j1 k⟩, fun k => absurd (by rw [i1, j1]) k⟩, fun k => absurd g3 k⟩, fun k => absurd j2 k⟩, fun k => absurd i2 k⟩
end Go.Sx.N
