/-
 The law RunTaxes: its condition. Conditions: none.
-/
import Derived.Test.YtccbjhfdfbaekaaGreatNumVRTaxes
import Derived.Test.YtccbjhfdfbaekaaGreatRunM
set_option linter.unusedVariables false
set_option linter.unusedSimpArgs false
set_option maxRecDepth 20000
namespace Go.Sx.N
theorem Yj {a c : Bool} {b f : Sl} (h : oO 0 1 a b c f) : iV a b c f /\ fq a b f = 0 := by
 obtain ⟨h1, h2, h3⟩ := h
 have e : fq a b f = 0 := by rw [h1.fq]; unfold nT; rw [if_neg (by decide)]; decide +kernel
 refine ⟨⟨⟨h1.nS, by omega, by omega⟩, ?_, ?_⟩, e⟩
 ·rw [e]; exact Rat.le_refl
 ·rw [e]; grind
theorem adG {q : Rat} (h : q = 0) (x : Int) : (0 : Int) = (q * (x : Rat)).floor /\ bF (q * (x : Rat)) := by
 rw [h, Rat.zero_mul]
 exact ⟨(Rat.floor_intCast 0).symm, BM (x := 0) (by decide) (by decide)⟩
def TI (m r : Int) (due : Sl) (sum held i st : Int) (d p : Sl) (mo g t : Int) (l : Sl) : Prop :=
 (0 <= i /\ i <= 12) /\ (due.len = i /\ ∀ k : Int, 0 <= k -> k < i -> 0 <= due.int k 0 /\ due.int k 0 <= 4294967295) /\ ((0 <= sum /\ sum <= 4294967295 * i) /\ held = sum * r / 100) /\
 (st = m /\ iE st d p mo g t l /\ lastDay p <= 10 + i /\ p.len <= 3 * i) /\ ((∀ k : Int, 0 <= k -> k < i -> aI p (m + k) = due.int k 0) /\ ∀ k : Int, i <= k -> aI p (m + k) = 0) /\
 (g = sum /\ t = held) /\ ((i = 0 -> mo = 0 /\ g = 0 /\ t = 0) /\ (0 < i -> mo = m + i - 1)) /\ l.len = i /\ (0 < i -> l.int (i - 1) 0 = m + i - 1 /\ l.int (i - 1) 4 = i)
section
variable {m r n sum held i st mo g t : Int} {due d p l : Sl}
set_option maxHeartbeats 1000000 in
theorem afM (hm : 0 <= m /\ m + 11 <= 2153 /\ m % 12 = 0) (hr : 0 <= r /\ r <= 100) (hn : 0 <= n /\ n <= 4294967295) (h : TI m r due sum held i st d p mo g t l) (hi : i < 12)
  {u1 w1 : Bool} {v1 x1 : Sl} (p1 : oO 0 1 u1 v1 w1 x1) {es : Sl} {ac nu : Int} {a c : Bool} {b f : Sl} {na : ByteArray} {tw : Bool} {rt ys ys2 : Sl} {kn : Int} {o : pU}
  (n1 : dO m (Sl.app due (Sl.lit [[.int n]])) es) (s1 : iQ (i + 1) u1 v1 w1 x1 ac nu a b c f na tw rt ys kn) (hy : Am r ys2)
  (h1 : iY.pay ⟨st, d, p, mo, g, t, l, es, 10 + i, m + i, ac, nu, a, b, c, f, na, tw, rt, ys2, kn⟩ o) :
  o.e = 0 /\ o.aB = n /\ o.net = n - o.iZ /\ (0 <= o.iZ /\ o.iZ <= n + 1) /\ TI m r (Sl.app due (Sl.lit [[.int n]])) (sum + n) (held + o.iZ) (i + 1) o.st o.d o.p o.mo o.g o.t o.l := by
 obtain ⟨⟨i0, i1⟩, ⟨dl, dv⟩, ⟨⟨s0, s1'⟩, hh⟩, ⟨hst, V, ld, pl⟩, ⟨po, pz⟩, ⟨gs, th⟩, ⟨z0, z1⟩, ll, lz⟩ := h
 subst hst gs th
 obtain ⟨rfl, rfl, ⟨rfl, rfl, rfl, rfl⟩, zz, y1, rfl⟩ := s1
 obtain ⟨sh, q1⟩ := Yj p1
 obtain ⟨la, lb⟩ := adG q1 n
 have Yk : (Sl.lit [[.int n]]).len = 1 := rfl
 have zU : (Sl.app due (Sl.lit [[.int n]])).len = i + 1 := by rw [cu, Yk, dl]
 have dlo : ∀ k : Int, 0 <= k -> k < i -> (Sl.app due (Sl.lit [[.int n]])).int k 0 = due.int k 0 := fun k k0 k1 => aU k0 (by omega)
 have dhi : (Sl.app due (Sl.lit [[.int n]])).int i 0 = n := by
  rw [aF (by omega), dl, Int.sub_self]; rfl
 have hgo : ∀ x, (i = 0 -> x = 0) -> goes mo (st + i) x = x := fun x hx => by
  unfold goes
  by_cases c : i = 0
  ·rw [hx c]; split <;> rfl
  ·have := z1 (by omega)
   first
    | rw [if_pos (by omega)]
    | rw [if_neg (by omega)]
 have im0 : imin 0 (0 : Int) = 0 := by unfold imin; split <;> omega
 have hg := hgo g (fun k => (z0 k).2.1)
 have ht := hgo t (fun k => (z0 k).2.2)
 have ht0 : 0 <= t := by rw [hh]; exact Int.ediv_nonneg (Int.mul_nonneg s0 hr.1) (by decide)
 obtain ⟨e1, t1, v1, ⟨Ti, dv1⟩, bh1, ld1, pl1, ⟨m1, g1, x1⟩, ⟨gr1, OG, nt1, nm1⟩, sl1⟩ := GN h1 V n1 (by rw [zU]; omega) ⟨by omega, by omega⟩ (by rw [zU]; omega) (by
   by_cases c : i = 0
   ·rw [if_neg (by omega)]; omega
   ·rw [if_pos (by omega), ll, (lz (by omega)).2]; omega) (by
   by_cases c : i = 0
   ·rw [if_neg (by omega)]; omega
   ·rw [if_pos (by omega), ll, (lz (by omega)).1]; omega) (fun k k0 k1 => by
   rw [zU] at k1
   by_cases c : k = i
   ·rw [c, dhi]; exact ⟨hn.1, by omega⟩
   ·rw [dlo k k0 (by omega)]
    have := dv k k0 (by omega)
    exact ⟨this.1, by omega⟩) (by omega) zz ⟨ld, by omega, by omega⟩ (by omega) sh 0 0 0 0 0 n r n (pz i (Int.le_refl _)) (by rw [show st + i - st = i by omega]; exact dhi)
  ⟨Int.le_refl _, Int.le_refl _, by decide, fun _ => rfl⟩ ⟨Int.le_refl _, Int.le_refl _, by decide, fun _ => rfl⟩ (fun _ => .inl rfl) (fun k k0 k1 => by
   rw [dlo k k0 (by omega), po k k0 (by omega)]
   (repeat' split) <;> omega) la lb hy hr (by
   by_cases c : i = 0
   ·have := (z0 c).1; omega
   ·have := z1 (by omega); omega) (by rw [im0]; omega) ⟨hn.1, by omega⟩ (by rw [hg]; omega) (by rw [ht]; exact ht0)
 rw [im0, show dK ((0 : Int) < 0) _ = [] from rfl, show dK ((0 : Int) < 0) _ = [] from rfl, List.nil_append, List.append_nil] at bh1
 rw [hg] at g1 x1
 rw [ht] at OG
 have P1 : ∀ mo, aI o.p mo = aI p mo + if 0 < n /\ st + i = mo then n else 0 := fun mo => by
  rw [kC bh1, AX, if_neg (show ¬ (1 : Int) = 3 by decide)]
 have dlt : g * r / 100 <= (g + n) * r / 100 /\ (g + n) * r / 100 <= g * r / 100 + n + 1 := by
  rw [Int.add_mul]
  have a0 : 0 <= n * r := Int.mul_nonneg hn.1 hr.1
  have a1 : n * r <= n * 100 := Int.mul_le_mul_of_nonneg_left hr.2 hn.1
  generalize g * r = A at *
  generalize n * r = B at *
  omega
 have tl : t + o.iZ = (g + n) * r / 100 := by rw [OG, x1]; omega
 have ell : o.l.len = i + 1 := by rw [sl1, cu, ll]; rfl
 refine ⟨e1, gr1, nt1, ⟨by rw [OG, x1, hh]; omega, by rw [OG, x1, hh]; omega⟩, ⟨by omega, by omega⟩, ⟨zU, fun k k0 k1 => ?_⟩, ⟨⟨by omega, by rw [Int.mul_add]; omega⟩, tl⟩, ⟨t1, v1, by omega, by omega⟩, ⟨fun k k0 k1 => ?_, fun k k0 => ?_⟩, ⟨g1, by rw [tl, x1]⟩, ⟨fun k => by omega, fun _ => by rw [m1]; omega⟩, ell, fun _ => ?_⟩
 ·by_cases c : k = i
  ·rw [c, dhi]; exact hn
  ·rw [dlo k k0 (by omega)]; exact dv k k0 (by omega)
 ·rw [P1]
  by_cases c : k = i
  ·rw [c, dhi, pz i (Int.le_refl _)]
   by_cases c2 : 0 < n
   ·rw [if_pos ⟨c2, rfl⟩]; omega
   ·rw [if_neg (fun k => c2 k.1)]; omega
  ·rw [dlo k k0 (by omega), po k k0 (by omega), if_neg (by omega)]; omega
 ·rw [P1, pz k (by omega), if_neg (by omega)]; rfl
 ·rw [sl1, show i + 1 - 1 = i by omega, aF (by omega), aF (by omega), ll, Int.sub_self]
  exact ⟨by show st + i = _; omega, rfl⟩
end
theorem jS {n x0 x1 x2 x3 x4 x5 x6 x7 x8 x9 x10 x11 x12 aC : Int} {s15 : Sl} {x18 x19 : Int} {s20 gq : Sl} {bY x23 x24 : Int} {nD : Sl} {x16 x17 : Int} (r0 : 0 <= x0 /\ x0 <= 255) (rr : 0 <= aC /\ aC <= 255) (hn : 0 <= n /\ n <= 4294967295)
  (h : TI (12 * Int.tmod x0 171) (Int.tmod aC 101) s15 x16 x17 x18 x19 s20 gq bY x23 x24 nD) (hi : x18 < 12) :
  eG n x0 x1 x2 x3 x4 x5 x6 x7 x8 x9 x10 x11 x12 aC s15 x18 x19 s20 gq bY x23 x24 nD x16 x17 (fun due sum held i st d p mo g t l => TI (12 * Int.tmod x0 171) (Int.tmod aC 101) due sum held i st d p mo g t l) (fun _ _ _ i _ _ _ _ _ _ _ => (12 - i).toNat) := by
 unfold eG
 simp only [Bool.decide_eq_true]
 have e0 : Int.tmod x0 171 = x0 % 171 := Int.tmod_eq_emod_of_nonneg r0.1
 have e1 : Int.tmod aC 101 = aC % 101 := Int.tmod_eq_emod_of_nonneg rr.1
 have hm : 0 <= 12 * Int.tmod x0 171 /\ 12 * Int.tmod x0 171 + 11 <= 2153 /\ (12 * Int.tmod x0 171) % 12 = 0 := by rw [e0]; omega
 have hr : 0 <= Int.tmod aC 101 /\ Int.tmod aC 101 <= 100 := by rw [e1]; omega
 generalize 12 * Int.tmod x0 171 = m at *
 generalize Int.tmod aC 101 = r at *
 have i0 := h.1.1
 have dl := h.2.1.1
 have dv := h.2.1.2
 have Yk : (Sl.lit [[.int n]]).len = 1 := rfl
 have zU : (Sl.app s15 (Sl.lit [[.int n]])).len = x18 + 1 := by rw [cu, Yk, dl]
 have sb := h.2.2.1.1
 have tb : 0 <= x17 /\ x17 <= 51539607540 := by
  rw [h.2.2.1.2]
  have a0 : 0 <= x16 * r := Int.mul_nonneg sb.1 hr.1
  have a1 : x16 * r <= x16 * 100 := Int.mul_le_mul_of_nonneg_left hr.2 sb.1
  generalize x16 * r = A at *
  omega
 refine ⟨by rw [dl, Yk]; omega, by rw [ak]; omega, trivial, fun u1 v1 _ w1 z1 _ p1 => ⟨trivial, fun ac _ nu _ a b _ c f _ na tw rt _ ys _ kn _ s1 => ⟨trivial, fun ys2 _ hy => ⟨by rw [ak]; omega, by rw [ak]; omega, fun _ =>
  ⟨fun es k => (es.len = k /\ 0 <= k /\ k <= x18 + 1) /\ ∀ j : Int, 0 <= j -> j < k -> es.int j 0 = m + j /\ es.int j 1 = (Sl.app s15 (Sl.lit [[.int n]])).int j 0 /\ es.int j 2 = 0, fun _ k => (x18 + 1 - k).toNat, ⟨⟨rfl, Int.le_refl _, by omega⟩, fun j j0 j1 => by omega⟩, fun es _ k _ hJ => ⟨fun hlt => ?_, fun hge => ⟨⟨uX s1, by rw [hJ.1.1]; omega⟩,
   fun ot _ od _ op _ om _ og _ ou _ ol _ q1 _ q2 _ q3 _ q4 _ q5 _ q6 _ q7 _ q8 _ q9 _ q0 oe _ hp => ?_⟩⟩⟩⟩⟩⟩⟩
 ·rw [zU] at hlt
  obtain ⟨⟨j1, j2, j3⟩, jv⟩ := hJ
  generalize Sl.app s15 (Sl.lit [[.int n]]) = ac7 at *
  refine ⟨j2, by rw [zU]; exact hlt, fun _ => ⟨by rw [ak]; omega, by rw [j1]; show (k + 1) * 96 <= 140737488355328; omega, by rw [ak]; omega, ⟨⟨by rw [cu, j1]; rfl, by omega, by omega⟩, fun j g0 g1 => ?_⟩, by show (x18 + 1 - (k + 1)).toNat < (x18 + 1 - k).toNat; omega⟩⟩
  by_cases c2 : j = k
  ·rw [aF (by omega), aF (by omega), aF (by omega), j1, c2, Int.sub_self]
   exact ⟨rfl, rfl, rfl⟩
  ·rw [aU g0 (by omega), aU g0 (by omega), aU g0 (by omega)]
   exact jv j g0 (by omega)
 ·rw [zU] at hge
  obtain ⟨⟨j1, j2, j3⟩, jv⟩ := hJ
  have ek : k = x18 + 1 := by omega
  subst ek
  have n1 : dO m (Sl.app s15 (Sl.lit [[.int n]])) es := ⟨by rw [j1, zU], fun j g0 g1 => jv j g0 (by rw [<- zU]; exact g1)⟩
  obtain ⟨g1, g2, g3, g4, g5⟩ := afM hm hr hn h hi p1 n1 s1 hy (o := ⟨ot, od, op, om, og, ou, ol, q1, q2, q3, q4, q5, q6, q7, q8, q9, q0, oe⟩) hp
  dsimp only at g1 g2 g3 g4 g5
  refine ⟨fun k => absurd g1 k, fun _ => ⟨fun k => absurd g2 k, fun _ => ⟨by rw [ak]; omega, fun k => absurd g3 k, fun _ => ⟨by rw [ak]; omega, by rw [ak]; omega, by rw [ak]; omega, g5, by show (12 - (x18 + 1)).toNat < (12 - x18).toNat; omega⟩⟩⟩⟩
theorem Yl : Jz := by
 intro x0 r0 x1 r1 x2 r2 x3 r3 x4 r4 x5 r5 x6 r6 x7 r7 x8 r8 x9 r9 x10 r10 x11 r11 x12 r12 aC r13 _
 have r0 : 0 <= x0 /\ x0 <= 255 := r0
 have r13 : 0 <= aC /\ aC <= 255 := r13
 have e0 : Int.tmod x0 171 = x0 % 171 := Int.tmod_eq_emod_of_nonneg r0.1
 have e1 : Int.tmod aC 101 = aC % 101 := Int.tmod_eq_emod_of_nonneg r13.1
 have hm : 0 <= 12 * Int.tmod x0 171 /\ 12 * Int.tmod x0 171 + 11 <= 2153 /\ (12 * Int.tmod x0 171) % 12 = 0 := by rw [e0]; omega
 have hr : 0 <= Int.tmod aC 101 /\ Int.tmod aC 101 <= 100 := by rw [e1]; omega
 refine ⟨by decide, by rw [ak]; omega, by rw [ak]; omega, by decide, by rw [ak]; omega, fun due sum held i st d p mo g t l => TI (12 * Int.tmod x0 171) (Int.tmod aC 101) due sum held i st d p mo g t l, fun _ _ _ i _ _ _ _ _ _ _ => (12 - i).toNat, ?_, fun s15 _ x16 _ x17 _ x18 _ x19 _ s20 _ gq _ bY _ x23 _ x24 _ nD _ h => ⟨fun hlt => ⟨h.1.1, hlt, ?_⟩, fun hge => ?_⟩⟩
 ·generalize 12 * Int.tmod x0 171 = m at *
  generalize Int.tmod aC 101 = r at *
  have V0 : iE m Sl.nil Sl.nil 0 0 0 Sl.nil := ⟨⟨⟨⟨hm.1, by omega, by decide, by rw [len_nil]; omega⟩, fun i i0 i1 => by rw [len_nil] at i1; omega, by decide, fun i i0 i1 => by rw [len_nil] at i1; omega⟩, by decide⟩, ⟨⟨by decide, by decide⟩, ⟨by decide, by decide⟩, ⟨by decide, by decide⟩⟩, fun i i0 i1 => by rw [len_nil] at i1; omega⟩
  exact ⟨⟨by omega, by omega⟩, ⟨rfl, fun k k0 k1 => by omega⟩, ⟨⟨by omega, by omega⟩, by rw [Int.zero_mul]; rfl⟩, ⟨rfl, V0, by decide, by decide⟩, ⟨fun k k0 k1 => by omega, fun k k0 => rfl⟩, ⟨rfl, rfl⟩, ⟨fun _ => ⟨rfl, rfl, rfl⟩, fun k => by omega⟩, rfl, fun k => by omega⟩
 ·refine ⟨fun _ => jS r0 r13 r1 h hlt, fun _ => ⟨fun _ => jS r0 r13 r2 h hlt, fun _ => ⟨fun _ => jS r0 r13 r3 h hlt, fun _ => ⟨fun _ => jS r0 r13 r4 h hlt, fun _ => ⟨fun _ => jS r0 r13 r5 h hlt, fun _ => ⟨fun _ => jS r0 r13 r6 h hlt, fun _ => ⟨fun _ => jS r0 r13 r7 h hlt, fun _ => ⟨fun _ => jS r0 r13 r8 h hlt, fun _ => ⟨fun _ => jS r0 r13 r9 h hlt, fun _ => ⟨fun _ => jS r0 r13 r10 h hlt, fun _ => ⟨fun _ => jS r0 r13 r11 h hlt, fun _ => jS r0 r13 r12 h hlt⟩⟩⟩⟩⟩⟩⟩⟩⟩⟩⟩
 ·obtain ⟨sb, th⟩ := h.2.2.1
  generalize Int.tmod aC 101 = r at *
  have a0 : 0 <= x16 * r := Int.mul_nonneg sb.1 hr.1
  have a1 : x16 * r <= x16 * 100 := Int.mul_le_mul_of_nonneg_left hr.2 sb.1
  have i1 := h.1.2
  have ed : Int.tdiv (x16 * r) 100 = x16 * r / 100 := Int.tdiv_eq_ediv_of_nonneg a0
  rw [ed]
  refine ⟨by rw [ak]; omega, by decide, by rw [ak]; omega, fun _ => ⟨trivial, fun b hb => ⟨hb, trivial⟩⟩, fun k => absurd th k⟩
end Go.Sx.N
