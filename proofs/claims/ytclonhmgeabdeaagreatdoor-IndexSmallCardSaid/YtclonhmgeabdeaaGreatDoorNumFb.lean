/-
 The conditions of sums, differences and products of words, and of whole numbers. Conditions: none.
 The conditions of whole numbers out of ints and back. Conditions: none.
 Fractions as rational numbers: what their parts tell. Conditions: none.
 The conditions of the functions on fractions. Conditions: none.
 The condition of rounding. Conditions: none.
-/
import Derived.Test.YtclonhmgeabdeaaGreatDoorNumFa
import Derived.Test.YtclonhmgeabdeaaGreatDoorNumVB
import Derived.Test.YtclonhmgeabdeaaGreatDoorNumBase
import Derived.Test.YtclonhmgeabdeaaGreatDoorNumVC
set_option linter.unusedVariables false
set_option linter.unusedSimpArgs false
namespace Go.Sx.N
theorem val_app1 (B : Int) (w : Sl) (d : Int) : val B (Sl.app w (Sl.lit [[.int d]])) = val B w + d * B ^ w.n := by
 show valN B (dg (Sl.app w (Sl.lit [[.int d]]))) (w.n + 1) = _
 rw [valN_succ]
 have e : dg (Sl.app w (Sl.lit [[.int d]])) w.n = d := by
  show Sl.int _ ((w.n : Nat) : Int) 0 = d
  rw [int_app_ge (by unfold Sl.len; omega)]
  have : ((w.n : Nat) : Int) - w.len = 0 := by unfold Sl.len; omega
  rw [this]
  rfl
 rw [e]
 congr 1
 exact valN_congr fun k hk => int_app_lt (Int.natCast_nonneg _) (by unfold Sl.len; omega)
theorem len_app1 (w : Sl) (c : List D) : (Sl.app w (Sl.lit [c])).len = w.len + 1 := by
 rw [len_app]; rfl
theorem plus_ok : V_plus := by
 intro a ra b rb hp
 obtain ⟨la, lb⟩ := hp
 unfold Lim at la lb
 refine ⟨fun x y => vw x + vw y = vw a + vw b /\ y.len <= x.len /\ x.len <= 1073741824, ⟨fun _ _ => ⟨fun h => ⟨by omega, by omega, lb⟩, fun h => ⟨rfl, by omega, la⟩⟩, fun x rx y ry hj _ => ?_⟩⟩
 obtain ⟨hs, hyx, hxl⟩ := hj
 have dx := ranged32 rx
 have dy := ranged32 ry
 have hx0 := len0 x
 refine ⟨rsL _ (by omega), by decide, by omega, by omega, fun _ => ?_⟩
 refine ⟨fun i w c => 0 <= i /\ i <= x.len /\ w.len = i /\ (c = 0 \/ c = 1) /\ vw w + c * 4294967296 ^ i.toNat = vto 4294967296 x i + xto 4294967296 y i, fun i _ _ => (x.len - i).toNat,
  ⟨by omega, hx0, rfl, .inl rfl, rfl⟩, fun i _ w rw_ c _ hj => ?_⟩
 obtain ⟨i0, i1, hwl, hc, hv⟩ := hj
 have hwn : w.n = i.toNat := by unfold Sl.len at hwl; omega
 have wz : ∀ z : Int, 0 <= z -> z <= 8589934590 -> IntKind.wrap .u64 (z + c) = z + c := fun z h1 h2 => wu64_in (by omega) (by omega)
 refine ⟨fun hlt => ⟨i0, hlt, fun _ => ⟨fun z => z = x.int i 0 + wd y i, ⟨fun _ => ⟨fun h => ⟨i0, h, fun _ => ?_⟩, fun h => ?_⟩, fun z _ hz => ?_⟩⟩⟩, fun hge => ?_⟩
 ·have e : wd y i = y.int i 0 := if_pos h
  have h1 := dx.at i0 hlt
  have h2 := dy.at i0 h
  rw [e]
  exact wu64_in (by omega) (by omega)
 ·have e : wd y i = 0 := if_neg h
  rw [e]; omega
 ·have h1 := dx.at i0 hlt
  have h2 := wd_bound (B := 4294967296) (by decide) dy i0
  have hz : z = x.int i 0 + wd y i := hz
  rw [wz z (by omega) (by omega), shr32, wu32]
  have fin : (w.len + (Sl.lit [[.int ((z + c) % 4294967296)]]).len) * 4 <= 140737488355328 /\ (0 : Int) <= 32 /\ Rng .u64 ((z + c) / 4294967296) /\ Rng .i64 (i + 1) /\
    ((0 <= i + 1 /\ i + 1 <= x.len /\ (Sl.app w (Sl.lit [[.int ((z + c) % 4294967296)]])).len = i + 1 /\ ((z + c) / 4294967296 = 0 \/ (z + c) / 4294967296 = 1) /\
     vw (Sl.app w (Sl.lit [[.int ((z + c) % 4294967296)]])) + (z + c) / 4294967296 * 4294967296 ^ (i + 1).toNat = vto 4294967296 x (i + 1) + xto 4294967296 y (i + 1)) /\ (x.len - (i + 1)).toNat < (x.len - i).toNat) := by
   have e1 : (Sl.lit [[.int ((z + c) % 4294967296)]]).len = 1 := rfl
   refine ⟨by rw [e1]; omega, by decide, rngu64.2 (by omega), rsL _ (by omega), ⟨by omega, by omega, by rw [len_app1]; omega, by omega, ?_⟩, by omega⟩
   unfold vw at hv ⊢
   rw [val_app1, hwn, vto_succ _ _ i0, xto_succ _ _ i0, show (i + 1).toNat = i.toNat + 1 from by omega, Int.pow_succ]
   generalize (4294967296 : Int) ^ i.toNat = Q at *
   have e2 : z + c = 4294967296 * ((z + c) / 4294967296) + (z + c) % 4294967296 := by omega
   generalize (z + c) / 4294967296 = q at *
   generalize (z + c) % 4294967296 = r at *
   have e3 : r = x.int i 0 + wd y i + c - 4294967296 * q := by omega
   rw [e3]
   grind
  exact ⟨fin, fin⟩
 ·have ei : i = x.len := by omega
  have e0 : (0 : Int) + c = c := by omega
  rw [e0, wu64_in (x := c) (by omega) (by omega), wu32_in (x := c) (by omega) (by omega), shr32]
  have e1 : (Sl.lit [[.int c]]).len = 1 := rfl
  have fin : (w.len + (Sl.lit [[.int c]]).len) * 4 <= 140737488355328 /\ (0 : Int) <= 32 /\ Rng .u64 (c / 4294967296) /\ p_trim (Sl.app w (Sl.lit [[.int c]])) /\
    ∀ s : Sl, Ranged s [some .u32] -> q_trim (Sl.app w (Sl.lit [[.int c]])) s -> q_plus a b s /\ True := by
   refine ⟨by rw [e1]; omega, by decide, rngu64.2 (by omega), trivial, fun s _ hq => ⟨⟨?_, hq.1⟩, trivial⟩⟩
   rw [hq.2.2]
   unfold vw at hv hs ⊢
   rw [val_app1, hwn, hv, ei, <- val_vto, xto_end _ _ (by omega)]
   exact hs
  exact ⟨fin, fin⟩
theorem minus_ok : V_minus := by
 intro a ra b rb hp
 obtain ⟨la, lb, hle, hbl⟩ := hp
 unfold Lim at la lb
 have db := ranged32 rb
 refine ⟨la, fun s rs hs _ => ?_⟩
 have ds := ranged32 rs
 have hsl : s.len = a.len := hs.1
 have hsv : vw s = vw a := hs.val _
 have hs0 := len0 s
 have hb0 := len0 b
 refine ⟨fun bo i w => 0 <= i /\ i <= s.len /\ w.len = s.len /\ (bo = 0 \/ bo = 1) /\ vto 4294967296 w i = vto 4294967296 s i - xto 4294967296 b i + bo * 4294967296 ^ i.toNat /\ (∀ k : Int, i <= k -> k < s.len -> w.int k 0 = s.int k 0), fun _ i _ => (s.len - i).toNat,
  ⟨by omega, hs0, rfl, .inl rfl, rfl, fun _ _ _ => rfl⟩, fun bo _ i _ w rw_ hj => ?_⟩
 obtain ⟨i0, i1, hwl, hbo, hv, hk⟩ := hj
 refine ⟨fun hlt => ⟨fun z => z = wd b i, ⟨fun _ => ⟨fun h => ⟨i0, h, fun _ => (if_pos h).symm⟩, fun h => (if_neg h).symm⟩, fun z _ hz => ?_⟩⟩, fun hge => ⟨trivial, fun t _ ht => ⟨⟨?_, ht.1⟩, trivial⟩⟩⟩
 ·have hz : z = wd b i := hz
  have e := hk i (by omega) hlt
  refine ⟨i0, by omega, fun _ => ⟨by show bo <= 1; omega, fun d _ o _ hq => ⟨i0, by omega, rsL _ (by omega), ⟨by omega, by omega, by rw [len_upd]; exact hwl, hq.2, ?_, fun k h1 h2 => ?_⟩, ?_⟩⟩⟩
  ·rw [vto_upd_succ i0, hv, vto_succ _ _ i0, xto_succ _ _ i0, hq.1, hz, e, show (i + 1).toNat = i.toNat + 1 from by omega, Int.pow_succ]
   grind
  ·rw [int_upd i0 (by omega), if_neg (by omega)]
   exact hk k (by omega) h2
  ·show (s.len - (i + 1)).toNat < (s.len - i).toNat
   omega
 ·have ei : i = s.len := by omega
  subst ei
  have hw := (ranged32 rw_).bound_to (B := 4294967296) (by decide) (i := s.len) (by omega)
  have hsb := ds.bound_to (B := 4294967296) (by decide) (i := s.len) (by omega)
  have hb := (db.bound (B := 4294967296) (by decide)).1
  rw [hv, xto_end _ _ (by omega)] at hw
  rw [ht.2.2]
  unfold vw at *
  rw [val_vto, hwl, hv, xto_end _ _ (by omega)]
  rw [<- val_vto] at *
  generalize (4294967296 : Int) ^ s.len.toNat = Q at *
  rcases hbo with h | h
  ·rw [h]; omega
  ·rw [h] at hw; omega
theorem times_ok : V_times := by
 intro a ra b rb hp hsa hsb
 obtain ⟨la, lb⟩ := hp
 unfold Lim at la lb
 have da := ranged32 ra
 have db := ranged32 rb
 have ha0 := len0 a
 have hb0 := len0 b
 refine ⟨rsL _ (by omega), by omega, by omega, by omega, fun _ => ?_⟩
 refine ⟨fun i w => 0 <= i /\ i <= a.len /\ w.len = a.len + b.len /\ vw w = vto 4294967296 a i * vw b /\ (∀ k : Int, i + b.len <= k -> k < w.len -> w.int k 0 = 0), fun i _ => (a.len - i).toNat,
  ⟨by omega, ha0, len_rep (by omega) _, by unfold vw; rw [val_rep, vto_zero]; omega, fun _ _ _ => int_rep _ _⟩, fun i _ w rw_ hj => ?_⟩
 obtain ⟨i0, i1, hwl, hv, hz⟩ := hj
 refine ⟨fun hlt => ⟨i0, hlt, fun _ _ => ?_⟩, fun hge => ⟨trivial, fun t _ ht => ⟨⟨?_, ht.1⟩, trivial⟩⟩⟩
 ·have hx := da.at i0 hlt
  have hai : vto 4294967296 a (i + 1) = vto 4294967296 a i + a.int i 0 * 4294967296 ^ i.toNat := vto_succ _ _ i0
  generalize a.int i 0 = x at *
  have hpw : ∀ k : Int, 0 <= k -> (4294967296 : Int) ^ (i + k).toNat = 4294967296 ^ i.toNat * 4294967296 ^ k.toNat := fun k hk => by rw [show (i + k).toNat = i.toNat + k.toNat from by omega, Int.pow_add]
  refine ⟨fun c k u => 0 <= k /\ k <= b.len /\ u.len = a.len + b.len /\ (0 <= c /\ c < 4294967296) /\ vw u + c * 4294967296 ^ (i + k).toNat = vto 4294967296 a i * vw b + x * vto 4294967296 b k * 4294967296 ^ i.toNat /\ (∀ m : Int, i + b.len <= m -> m < u.len -> u.int m 0 = 0), fun _ k _ => (b.len - k).toNat,
   ⟨by omega, hb0, hwl, ⟨by decide, by decide⟩, by rw [hv, vto_zero]; simp, hz⟩, fun c _ k _ u ru hj => ?_⟩
  obtain ⟨k0, k1, hul, hc, hu, hzu⟩ := hj
  have du := ranged32 ru
  refine ⟨fun hlt' => ⟨k0, hlt', fun _ => ⟨rsL _ (by omega), by omega, by omega, fun _ => ?_⟩⟩, fun hge' _ => ⟨rsL _ (by omega), by omega, by omega, rsL _ (by omega), ⟨by omega, by omega, by rw [len_upd]; exact hul, ?_, fun m h1 h2 => ?_⟩, ?_⟩⟩
  ·have hy := db.at k0 hlt'
   have hd := du.at (i := i + k) (by omega) (by omega)
   have hbk : vto 4294967296 b (k + 1) = vto 4294967296 b k + b.int k 0 * 4294967296 ^ k.toNat := vto_succ _ _ k0
   generalize b.int k 0 = y at *
   have hxy : x * y <= 4294967295 * 4294967295 := Int.mul_le_mul (by omega) (by omega) hy.1 (by omega)
   have hxy0 : 0 <= x * y := Int.mul_nonneg hx.1 hy.1
   have eu : ∀ z : Int, vw (Sl.upd u (i + k) 0 [.int z]) = vw u + (z - u.int (i + k) 0) * 4294967296 ^ (i + k).toNat := fun z => val_upd (by omega) (by omega)
   generalize u.int (i + k) 0 = d at *
   rw [wu64_in (x := x * y) hxy0 (by omega), wu64_in (x := x * y + d) (by omega) (by omega), wu64_in (x := x * y + d + c) (by omega) (by omega), shr32, wu32]
   refine ⟨rsL _ (by omega), by omega, by omega, by decide, rngu64.2 (by omega), rsL _ (by omega), ⟨by omega, by omega, by rw [len_upd]; exact hul, by omega, ?_, fun m h1 h2 => ?_⟩, ?_⟩
   ·rw [eu, hbk, show i + (k + 1) = i + k + 1 from by omega, show (i + k + 1).toNat = (i + k).toNat + 1 from by omega, Int.pow_succ]
    rw [hpw k k0] at *
    have e2 : (x * y + d + c) % 4294967296 = x * y + d + c - 4294967296 * ((x * y + d + c) / 4294967296) := by omega
    rw [e2]
    generalize (x * y + d + c) / 4294967296 = q at *
    generalize (4294967296 : Int) ^ i.toNat = Q at *
    generalize (4294967296 : Int) ^ k.toNat = R at *
    grind
   ·rw [int_upd (by omega) (by omega), if_neg (by omega)]
    exact hzu m h1 h2
   ·show (b.len - (k + 1)).toNat < (b.len - k).toNat
    omega
  ·have ek : k = b.len := by omega
   subst ek
   have eb : vto 4294967296 b b.len = vw b := (val_vto _ _).symm
   have eu : vw (Sl.upd u (i + b.len) 0 [.int (IntKind.wrap .u32 c)]) = vw u + (IntKind.wrap .u32 c - u.int (i + b.len) 0) * 4294967296 ^ (i + b.len).toNat := val_upd (by omega) (by omega)
   rw [eu, hzu _ (by omega) (by omega), wu32_in hc.1 hc.2, hai]
   rw [eb] at hu
   generalize (4294967296 : Int) ^ (i + b.len).toNat = R at *
   generalize (4294967296 : Int) ^ i.toNat = Q at *
   grind
  ·rw [int_upd (by omega) (by omega), if_neg (by omega)]
   exact hzu m (by omega) h2
  ·show (a.len - (i + 1)).toNat < (a.len - i).toNat
   omega
 ·have ei : i = a.len := by omega
  subst ei
  rw [ht.2.2, hv]
  unfold vw
  rw [<- val_vto]
theorem Clone16_ok : V_Clone16 := by
 intro s r hp b
 have h0 := len0 s
 have hl : (Sl.lit []).len = 0 := rfl
 unfold p_Clone16 Lim at hp
 exact ⟨fun _ h => ⟨sameI_nil h, trivial⟩, fun _ => ⟨by omega, sameI_app hl, trivial⟩⟩
theorem wValid_ok : V_wValid := by
 intro neg l rl _ hsm
 have hm := small64 hsm
 have h0 := len0 l
 simp only [q_wValid, okW, NW, Bool.decide_eq_true, decide_eq_true_eq, decide_false, Bool.false_eq_true, false_iff]
 refine ⟨fun hz => ⟨?_, trivial⟩, fun hnz => ⟨fun hle => ⟨rsL _ (by omega), by omega, by omega, fun _ => ⟨?_, trivial⟩⟩, fun hgt => ⟨fun h => hgt h.2, trivial⟩⟩⟩
 ·constructor
  ·intro h
   exact ⟨⟨fun h' => absurd h' (by omega), fun _ => by simpa using h⟩, by omega⟩
  ·intro h
   simp [h.1.2 hz]
 ·constructor
  ·intro h
   exact ⟨⟨fun _ => h, fun h' => absurd h' (by omega)⟩, hle⟩
  ·intro h
   exact h.1.1 (by omega)
theorem wAllValid_ok : V_wAllValid := by
 intro s rs _ hsm
 have hm := small64 hsm
 have h0 := len0 s
 simp only [q_wAllValid, q_wValid, Bool.decide_eq_true, decide_eq_true_eq, decide_false, decide_true, Bool.false_eq_true, false_iff, true_iff]
 refine ⟨fun i => 0 <= i /\ i <= s.len /\ ∀ k : Int, 0 <= k -> k < i -> okW (s.bool k 0) (s.sub k 1), fun i => (s.len - i).toNat, ⟨by omega, h0, fun k h1 h2 => absurd h1 (by omega)⟩, fun i _ hj => ?_⟩
 obtain ⟨i0, i1, hk⟩ := hj
 refine ⟨fun hlt => ⟨i0, hlt, fun _ => ⟨trivial, fun b hb => ⟨fun hn => ⟨fun h => hn (hb.2 (h i i0 hlt)), trivial⟩, fun hn => ⟨rsL _ (by omega), ⟨by omega, by omega, fun k k0 k1 => ?_⟩, ?_⟩⟩⟩⟩, fun hge => ⟨fun k k0 k1 => hk k k0 (by omega), trivial⟩⟩
 ·by_cases e : k = i
  ·rw [e]; exact hb.1 (Classical.not_not.1 hn)
  ·exact hk k k0 (by omega)
 ·show (s.len - (i + 1)).toNat < (s.len - i).toNat
  omega
theorem lit2_valid {n m : Bool} {a b : Sl} : (∀ i : Int, 0 <= i -> i < (Sl.lit [[.bool n, Sl.d a], [.bool m, Sl.d b]]).len -> okW ((Sl.lit [[.bool n, Sl.d a], [.bool m, Sl.d b]]).bool i 0) ((Sl.lit [[.bool n, Sl.d a], [.bool m, Sl.d b]]).sub i 1)) ↔ okW n a /\ okW m b := by
 have e : (Sl.lit [[.bool n, Sl.d a], [.bool m, Sl.d b]]).len = 2 := rfl
 rw [e]
 constructor
 ·intro h
  exact ⟨h 0 (by decide) (by decide), h 1 (by decide) (by decide)⟩
 ·intro h i i0 i1
  rcases (show i = 0 \/ i = 1 by omega) with rfl | rfl
  ·exact h.1
  ·exact h.2
def sg (neg : Bool) (x : Int) : Int := if neg = true then -x else x
theorem zv_sg (neg : Bool) (l : Sl) : zv neg l = sg neg (vl l) := rfl
theorem unpack_nw {neg neg' : Bool} {w l : Sl} (h : q_unpack neg w neg' l) (rl : Ranged l [some .u16]) : NW neg' l /\ zv neg' l = sg neg (vw w) := by
 obtain ⟨h1, h2, h3⟩ := h
 have hz := val_zero_iff (B := 65536) (by decide) (ranged16 rl) h1
 refine ⟨⟨h1, fun h0 => ?_⟩, ?_⟩
 ·cases neg'
  ·rfl
  ·exact absurd h0 (h3.1 rfl).2
 ·unfold zv sg
  rw [h2]
  by_cases hl : l.len = 0
  ·have e : vw w = 0 := by rw [<- h2]; exact hz.2 hl
   rw [e]; simp
  ·have : neg' = neg := by
    cases neg' <;> cases neg <;> first | rfl | (exfalso; simp [hl] at h3)
   rw [this]
theorem result_ok : V_result := by
 intro neg w rw_ hp
 obtain ⟨hl, hc⟩ := hp
 simp only [Bool.decide_eq_true]
 refine ⟨hl, fun neg' l rl hq _ => ⟨fun hgt => ?_, fun hle => ⟨?_, trivial⟩⟩⟩
 ·exfalso
  have h1 := hq.2.1
  have h2 := (len_le_of_val (B := 65536) (by decide) (ranged16 rl) hq.1 1024).2 (by rw [cap_eq] at hc; rw [<- h1] at hc; exact hc)
  omega
 ·obtain ⟨h1, h2⟩ := unpack_nw hq rl
  exact ⟨h1, h2, rfl⟩
theorem sum_ok : V_sum := by
 intro n a ra m b rb hp
 obtain ⟨la, lb, na, nb, hc⟩ := hp
 simp only [Bool.decide_eq_true]
 have da := ranged32 ra
 have db := ranged32 rb
 have ha := (da.bound (B := 4294967296) (by decide)).1
 have hb := (db.bound (B := 4294967296) (by decide)).1
 have ha : 0 <= vw a := ha
 have hb : 0 <= vw b := hb
 have lim : ∀ r : Sl, Ranged r [some .u32] -> Nrm r -> vw r < cap -> Lim r := fun r rr nr h => by
  have : r.len <= (512 : Nat) := (len_le_of_val (B := 4294967296) (by decide) (ranged32 rr) nr 512).2 (by rw [cap_eq, show (1024 : Nat) = 2 * 512 from rfl, pow16] at h; exact h)
  unfold Lim
  omega
 refine ⟨fun he => ⟨⟨la, lb⟩, fun r rr hr => ⟨⟨lim r rr hr.2 (by rw [hr.1]; exact hc), by rw [hr.1]; exact hc⟩, fun neg l _ e _ hq => ⟨⟨hq.1, ?_, hq.2.2⟩, trivial⟩⟩⟩, fun hne => ⟨⟨na, nb⟩, fun c _ hcmp => ⟨fun hge => ⟨⟨la, lb, ?_, ?_⟩, fun r rr hr => ⟨⟨lim r rr hr.2 (by rw [hr.1]; omega), by rw [hr.1]; omega⟩, fun neg l _ e _ hq => ⟨⟨hq.1, ?_, hq.2.2⟩, trivial⟩⟩⟩, fun hlt => ⟨⟨lb, la, ?_, ?_⟩, fun r rr hr => ⟨⟨lim r rr hr.2 (by rw [hr.1]; omega), by rw [hr.1]; omega⟩, fun neg l _ e _ hq => ⟨⟨hq.1, ?_, hq.2.2⟩, trivial⟩⟩⟩⟩⟩⟩
 ·rw [hq.2.1, hr.1]
  have : n = m := by cases n <;> cases m <;> simp_all
  rw [this]
  split <;> omega
 ·rcases hcmp with h | h | h <;> omega
 ·exact len_mono (B := 4294967296) (by decide) db nb da (by show vw b <= vw a; rcases hcmp with h | h | h <;> omega)
 ·rw [hq.2.1, hr.1]
  cases n <;> cases m <;> simp_all <;> omega
 ·rcases hcmp with h | h | h <;> omega
 ·exact len_mono (B := 4294967296) (by decide) da na db (by show vw a <= vw b; rcases hcmp with h | h | h <;> omega)
 ·rw [hq.2.1, hr.1]
  cases n <;> cases m <;> simp_all <;> omega
theorem val_lt_cap {k : Nat} {l : Sl} (dl : Dig 65536 l) (h : l.len <= k) : vl l < 65536 ^ k := by
 have h1 := (dl.bound (B := 65536) (by decide)).2
 have h2 := pow_mono (B := 65536) (by decide) (show l.n <= k by unfold Sl.len at h; omega)
 exact Int.lt_of_lt_of_le h1 h2
theorem shW.ok {n : Bool} {a : Sl} (h : shW n a) : okW n a := ⟨h.1, by have := h.2; omega⟩
theorem wAdd_ok : V_wAdd := by
 intro n a ra m b rb hp
 simp only [Bool.decide_eq_true] at hp ⊢
 obtain ⟨ha, hb⟩ := hp
 simp only [q_wAllValid, lit2_valid]
 have la : Lim a := by have := ha.2; unfold Lim; omega
 have lb : Lim b := by have := hb.2; unfold Lim; omega
 have h600 : (65536 : Int) ^ 600 + 65536 ^ 600 <= cap := by
  rw [cap_eq]
  have h1 := pow_mono (B := 65536) (by decide) (show 601 <= 1024 by decide)
  have h2 : (65536 : Int) ^ 601 = 65536 ^ 600 * 65536 := Int.pow_succ ..
  have h3 := pos_pow (B := 65536) (by decide) 600
  generalize (65536 : Int) ^ 600 = P at *
  generalize (65536 : Int) ^ 601 = Q at *
  generalize (65536 : Int) ^ 1024 = R at *
  omega
 refine ⟨trivial, fun v hv => ⟨fun hn => absurd (hv.2 ⟨ha.ok, hb.ok⟩) hn, fun _ => ⟨la, fun x _ hx => ⟨lb, fun y _ hy => ⟨⟨?_, ?_, hx.2.1 ha.1.1, hy.2.1 hb.1.1, ?_⟩, fun neg l _ e _ hq => ⟨⟨hq.1, ?_, hq.2.2⟩, trivial⟩⟩⟩⟩⟩⟩
 ·have := hx.2.2; unfold Lim at *; omega
 ·have := hy.2.2; unfold Lim at *; omega
 ·rw [hx.1, hy.1]
  have h1 := val_lt_cap (k := 600) (ranged16 ra) ha.2
  have h2 := val_lt_cap (k := 600) (ranged16 rb) hb.2
  generalize (65536 : Int) ^ 600 = P at *
  omega
 ·rw [hq.2.1, hx.1, hy.1]; rfl
theorem wMul_ok : V_wMul := by
 intro n a ra m b rb hp
 simp only [Bool.decide_eq_true] at hp ⊢
 obtain ⟨ha, hb, hl⟩ := hp
 simp only [q_wAllValid, lit2_valid]
 have ha0 := len0 a
 have hb0 := len0 b
 have la : Lim a := by unfold Lim; omega
 have lb : Lim b := by unfold Lim; omega
 refine ⟨trivial, fun v hv => ⟨fun hn => absurd (hv.2 ⟨⟨ha, by omega⟩, ⟨hb, by omega⟩⟩) hn, fun _ => ⟨la, fun x _ hx => ⟨lb, fun y _ hy => ⟨⟨?_, ?_⟩, fun r rr hr => ⟨⟨?_, ?_⟩, fun neg l _ e _ hq => ⟨⟨hq.1, ?_, hq.2.2⟩, trivial⟩⟩⟩⟩⟩⟩⟩
 ·have := hx.2.2; unfold Lim at *; omega
 ·have := hy.2.2; unfold Lim at *; omega
 all_goals
  have hcap : vw r < cap := by
   rw [hr.1, hx.1, hy.1, cap_eq]
   have h1 := (ranged16 ra).bound (B := 65536) (by decide)
   have h2 := (ranged16 rb).bound (B := 65536) (by decide)
   have h3 := pow_mono (B := 65536) (by decide) (show a.n + b.n <= 1024 by unfold Sl.len at hl; omega)
   have h4 := pos_pow (B := 65536) (by decide) a.n
   have h5 : vl a * vl b < 65536 ^ a.n * 65536 ^ b.n := by
    have g1 : vl a * vl b <= 65536 ^ a.n * vl b := Int.mul_le_mul_of_nonneg_right (Int.le_of_lt h1.2) h2.1
    have g2 : (65536 : Int) ^ a.n * vl b < 65536 ^ a.n * 65536 ^ b.n := Int.mul_lt_mul_of_pos_left h2.2 h4
    omega
   rw [<- Int.pow_add] at h5
   exact Int.lt_of_lt_of_le h5 h3
 ·have : r.len <= (512 : Nat) := (len_le_of_val (B := 4294967296) (by decide) (ranged32 rr) hr.2 512).2 (by rw [cap_eq, show (1024 : Nat) = 2 * 512 from rfl, pow16] at hcap; exact hcap)
  unfold Lim
  omega
 ·exact hcap
 ·rw [hq.2.1, hr.1, hx.1, hy.1]
  unfold zv
  cases n <;> cases m <;> simp [Int.neg_mul, Int.mul_neg]
theorem wGcd_ok : V_wGcd := by
 intro n a ra m b rb hp
 simp only [Bool.decide_eq_true] at hp ⊢
 obtain ⟨ha, hb⟩ := hp
 simp only [q_wAllValid, lit2_valid]
 have la : Lim a := by have := ha.2; unfold Lim; omega
 have lb : Lim b := by have := hb.2; unfold Lim; omega
 have hva : 0 <= vl a := ((ranged16 ra).bound (by decide)).1
 have hvb : 0 <= vl b := ((ranged16 rb).bound (by decide)).1
 have hca : vl a < cap := by rw [cap_eq]; exact val_lt_cap (ranged16 ra) ha.2
 have hcb : vl b < cap := by rw [cap_eq]; exact val_lt_cap (ranged16 rb) hb.2
 refine ⟨trivial, fun v hv => ⟨fun hn => absurd (hv.2 ⟨ha, hb⟩) hn, fun _ => ⟨la, fun x _ hx => ⟨lb, fun y _ hy => ⟨⟨?_, ?_, hx.2.1 ha.1.1, hy.2.1 hb.1.1⟩, fun r rr hr => ⟨?_, fun neg l rl hq => ⟨?_, trivial⟩⟩⟩⟩⟩⟩⟩
 ·have := hx.2.2; unfold Lim at *; omega
 ·have := hy.2.2; unfold Lim at *; omega
 ·show Lim r
  have h1 := hr.1
  rw [hx.1, hy.1] at h1
  have hcap : vw r < cap := by
   rw [h1]
   by_cases hz : vl a = 0
   ·rw [hz, Int.gcd_zero_left]; omega
   ·have := Nat.le_of_dvd (show 0 < (vl a).natAbs by omega) (Int.natCast_dvd_natCast.1 (by rw [Int.dvd_natAbs]; exact Int.gcd_dvd_left (vl a) (vl b)))
    omega
  have : r.len <= (512 : Nat) := (len_le_of_val (B := 4294967296) (by decide) (ranged32 rr) hr.2 512).2 (by rw [cap_eq, show (1024 : Nat) = 2 * 512 from rfl, pow16] at hcap; exact hcap)
  unfold Lim
  omega
 ·have hnf : neg = false := by
   have := hq.2.2
   cases neg
   ·rfl
   ·exact absurd (this.1 rfl).1 (by decide)
  exact ⟨⟨hq.1, fun _ => hnf⟩, hnf, by rw [hq.2.1, hr.1, hx.1, hy.1], rfl⟩
theorem wDivMod_ok : V_wDivMod := by
 intro n a ra m b rb hp
 simp only [Bool.decide_eq_true] at hp ⊢
 obtain ⟨ha, hb, hb0⟩ := hp
 simp only [q_wAllValid, lit2_valid]
 have la : Lim a := by have := ha.2; unfold Lim; omega
 have lb : Lim b := by have := hb.2; unfold Lim; omega
 have hva : 0 <= vl a := ((ranged16 ra).bound (by decide)).1
 have hvb : 0 < vl b := (val_pos_iff (B := 65536) (by decide) (ranged16 rb) hb.1.1).2 hb0
 have hca : vl a < cap := by rw [cap_eq]; exact val_lt_cap (ranged16 ra) ha.2
 have hcb : vl b < cap := by rw [cap_eq]; exact val_lt_cap (ranged16 rb) hb.2
 have lim : ∀ (r : Sl) (k : Int), Ranged r [some .u32] -> Nrm r -> vw r <= k -> k <= cap + 1 -> Lim r := fun r k rr nr h hk => by
  have hc : cap + 1 < 4294967296 ^ 513 := by
   rw [cap_eq, show (1024 : Nat) = 2 * 512 from rfl, pow16, show (513 : Nat) = 512 + 1 from rfl, Int.pow_succ]
   have := pos_pow (B := 4294967296) (by decide) 512
   generalize (4294967296 : Int) ^ 512 = P at *
   omega
  have : r.len <= (513 : Nat) := (len_le_of_val (B := 4294967296) (by decide) (ranged32 rr) nr 513).2 (by
   generalize (4294967296 : Int) ^ 513 = P at *
   show vw r < P
   omega)
  unfold Lim
  omega
 refine ⟨trivial, fun v hv => ⟨fun hn => absurd (hv.2 ⟨ha, hb⟩) hn, fun _ _ => ⟨fun hz => absurd hz (by omega), fun _ => ⟨lb, fun y ry hy => ⟨la, fun x rx hx => ⟨⟨?_, ?_, hx.2.1 ha.1.1, hy.2.1 hb.1.1, ?_⟩, fun q rq r rr hd => ?_⟩⟩⟩⟩⟩⟩
 ·have := hx.2.2; unfold Lim at *; omega
 ·have := hy.2.2; unfold Lim at *; omega
 ·refine (val_pos_iff (B := 4294967296) (by decide) (ranged32 ry) (hy.2.1 hb.1.1)).1 ?_
  show 0 < vw y
  rw [hy.1]; exact hvb
 obtain ⟨d1, d2, d3, d4⟩ := hd
 rw [hx.1, hy.1] at d1
 rw [hy.1] at d2
 have hq0 : 0 <= vw q := ((ranged32 rq).bound (by decide)).1
 have hr0 : 0 <= vw r := ((ranged32 rr).bound (by decide)).1
 have hqa : vw q <= vl a := by
  have : 1 * vw q <= vl b * vw q := Int.mul_le_mul_of_nonneg_right (by omega) hq0
  omega
 have hrz := val_zero_iff (B := 4294967296) (by decide) (ranged32 rr) d4
 have hrz : vw r = 0 ↔ r.len = 0 := hrz
 have hr00 := len0 r
 have plain : (¬ (¬ ((n = true) ↔ (m = true))) \/ ¬ r.len > 0) -> p_unpack (decide (¬ ((n = true) ↔ (m = true)))) q /\ ∀ (e : Bool) (l : Sl), Ranged l [some .u16] -> q_unpack (decide (¬ ((n = true) ↔ (m = true)))) q e l -> p_unpack m r /\ ∀ (e' : Bool) (l' : Sl), Ranged l' [some .u16] -> q_unpack m r e' l' -> q_wDivMod n a m b e l e' l' 0 /\ True := fun hc => by
  refine ⟨lim q cap rq d3 (by omega) (by omega), fun e l rl hu => ⟨lim r cap rr d4 (by omega) (by omega), fun e' l' rl' hu' => ⟨?_, trivial⟩⟩⟩
  obtain ⟨u1, u2⟩ := unpack_nw hu rl
  obtain ⟨u3, u4⟩ := unpack_nw hu' rl'
  refine ⟨u1, u3, ?_, ?_, ?_, rfl⟩
  ·rw [u2, u4, zv_sg, zv_sg, d1]
   unfold sg
   rcases hc with hc | hc
   ·have : n = m := by cases n <;> cases m <;> simp_all
    rw [this]
    cases m <;> simp [Int.neg_mul, Int.mul_neg] <;> omega
   ·have : vw r = 0 := hrz.2 (by omega)
    rw [this]
    cases n <;> cases m <;> simp [Int.neg_mul, Int.mul_neg]
  ·rw [u4, zv_sg]
   unfold sg
   cases m <;> simp <;> omega
  ·rw [u4, zv_sg]
   unfold sg
   cases m <;> simp <;> omega
 refine ⟨fun hne _ => ⟨fun hpos => ?_, fun hnp => plain (.inr hnp)⟩, fun heq => plain (.inl heq)⟩
 have e1 : vw (Sl.lit [[.int 1]]) = 1 := val_lit1 _ _
 have l1 : (Sl.lit [[.int 1]]).len = 1 := rfl
 have hrpos : 0 < vw r := by have := hrz.1; omega
 refine ⟨⟨lim q cap rq d3 (by omega) (by omega), by unfold Lim; rw [l1]; omega⟩, fun q' rq' hq' => ⟨⟨?_, lim r cap rr d4 (by omega) (by omega), by rw [hy.1]; omega, ?_⟩, fun r' rr' hr' => ⟨lim q' (cap + 1) rq' hq'.2 (by rw [hq'.1, e1]; omega) (by omega), fun e l rl hu => ⟨lim r' cap rr' hr'.2 (by rw [hr'.1, hy.1]; omega) (by omega), fun e' l' rl' hu' => ⟨?_, trivial⟩⟩⟩⟩⟩
 ·have := hy.2.2; unfold Lim at *; omega
 ·exact len_mono (B := 4294967296) (by decide) (ranged32 rr) d4 (ranged32 ry) (by show vw r <= vw y; rw [hy.1]; omega)
 ·obtain ⟨u1, u2⟩ := unpack_nw hu rl
  obtain ⟨u3, u4⟩ := unpack_nw hu' rl'
  rw [hq'.1, e1] at u2
  rw [hr'.1, hy.1] at u4
  refine ⟨u1, u3, ?_, ?_, ?_, rfl⟩
  ·rw [u2, u4, zv_sg, zv_sg, d1]
   unfold sg
   have e3 : vl b * (vw q + 1) = vl b * vw q + vl b := by rw [Int.mul_add, Int.mul_one]
   cases n <;> cases m <;> simp [Int.neg_mul, Int.mul_neg, Int.mul_add] at hne ⊢ <;> omega
  ·rw [u4, zv_sg]
   unfold sg
   cases m <;> simp <;> omega
  ·rw [u4, zv_sg]
   unfold sg
   cases m <;> simp <;> omega
end Go.Sx.N
namespace Go.Sx.N
theorem wi64 (x : Int) : IntKind.wrap .i64 x = (x + 9223372036854775808) % 18446744073709551616 - 9223372036854775808 := by rw [IntKind.wrap_i64]
def limbs4 (s i a b c d : Int) : Prop := (0 <= i /\ i <= 4) /\ a = (if 0 < i then s % 65536 else 0) /\ b = (if 1 < i then s / 65536 % 65536 else 0) /\ c = (if 2 < i then s / 4294967296 % 65536 else 0) /\ d = (if 3 < i then s / 281474976710656 % 65536 else 0)
def count4 (k i a b c d : Int) : Prop := 0 <= k /\ k <= i /\ (k <= 0 -> a = 0) /\ (k <= 1 -> b = 0) /\ (k <= 2 -> c = 0) /\ (k <= 3 -> d = 0) /\ (k = 1 -> a ≠ 0) /\ (k = 2 -> b ≠ 0) /\ (k = 3 -> c ≠ 0) /\ (k = 4 -> d ≠ 0)
theorem wFromInt_ok : V_wFromInt := by
 intro n rn _
 rw [rng64] at rn
 refine ⟨fun s => s = (if n < 0 then -n else n), ⟨fun h => ?_, fun h => ?_⟩, fun s rs hs => ?_⟩
 ·rw [if_pos h, wu64, wu64]; omega
 ·rw [if_neg h, wu64]; omega
 have hs : s = (if n < 0 then -n else n) := hs
 have hs0 : 0 <= s /\ s <= 9223372036854775808 := by rw [hs]; split <;> omega
 have sh : ∀ i : Int, 0 <= i -> i < 4 -> shr .u64 s (16 * i) = (if i = 0 then s else if i = 1 then s / 65536 else if i = 2 then s / 4294967296 else s / 281474976710656) := fun i h0 h1 => by
  rcases (show i = 0 \/ i = 1 \/ i = 2 \/ i = 3 by omega) with rfl | rfl | rfl | rfl
  ·have := shr_def .u64 (x := s) (n := 0) (by decide)
   simpa using this
  ·exact shr_def .u64 (x := s) (n := 16) (by decide)
  ·exact shr_def .u64 (x := s) (n := 32) (by decide)
  ·exact shr_def .u64 (x := s) (n := 48) (by decide)
 refine ⟨fun k i a b c d => limbs4 s i a b c d /\ count4 k i a b c d, fun _ i _ _ _ _ => (4 - i).toNat, ⟨⟨⟨by decide, by decide⟩, rfl, rfl, rfl, rfl⟩, by decide, by decide, fun _ => rfl, fun _ => rfl, fun _ => rfl, fun _ => rfl, fun h => absurd h (by decide), fun h => absurd h (by decide), fun h => absurd h (by decide), fun h => absurd h (by decide)⟩, ?_⟩
 intro k rk i ri a ra b rb c rc d rd hj
 obtain ⟨hl, hc⟩ := hj
 obtain ⟨⟨i0, i4⟩, la, lb, lc, ld⟩ := hl
 refine ⟨fun hlt => ⟨fun k' a' b' c' d' => limbs4 s (i + 1) a' b' c' d' /\ count4 k' (i + 1) a' b' c' d', ⟨fun a' b' c' d' => limbs4 s (i + 1) a' b' c' d', ?_, ?_⟩, fun k' _ a' _ b' _ c' _ d' _ hj' => ⟨rsL _ (by omega), hj', by show (4 - (i + 1)).toNat < (4 - i).toNat; omega⟩⟩, fun hge => ?_⟩
 ·have hsh := sh i i0 hlt
  unfold limbs4
  rw [hsh, wu16]
  refine ⟨rsL _ (by omega), by omega, ?_, i0, hlt, fun h => ?_, fun h1 => ⟨fun h => ?_, fun h2 => ⟨fun h => ?_, fun h3 => ?_⟩⟩⟩
  ·refine rngu64.2 ?_
   split
   ·omega
   ·split
    ·omega
    ·split <;> omega
  ·subst h
   simp at la lb lc ld ⊢
   omega
  ·subst h
   simp at la lb lc ld ⊢
   omega
  ·subst h
   simp at la lb lc ld ⊢
   omega
  ·have : i = 3 := by omega
   subst this
   simp at la lb lc ld ⊢
   omega
 ·intro a' _ b' _ c' _ d' _ hl'
  have hl' : limbs4 s (i + 1) a' b' c' d' := hl'
  have hl2 := hl'
  obtain ⟨_, la', lb', lc', ld'⟩ := hl2
  unfold count4 at hc ⊢
  refine ⟨i0, hlt, fun h => ⟨fun hn => ⟨rsL _ (by omega), hl', ?_⟩, fun hz => ⟨hl', ?_⟩⟩, fun h1 => ⟨fun h => ⟨fun hn => ⟨rsL _ (by omega), hl', ?_⟩, fun hz => ⟨hl', ?_⟩⟩, fun h2 => ⟨fun h => ⟨fun hn => ⟨rsL _ (by omega), hl', ?_⟩, fun hz => ⟨hl', ?_⟩⟩, fun h3 => ⟨fun hn => ⟨rsL _ (by omega), hl', ?_⟩, fun hz => ⟨hl', ?_⟩⟩⟩⟩⟩
  ·subst h; simp at la lb lc ld la' lb' lc' ld'; omega
  ·subst h; simp at la lb lc ld la' lb' lc' ld'; omega
  ·subst h; simp at la lb lc ld la' lb' lc' ld'; omega
  ·subst h; simp at la lb lc ld la' lb' lc' ld'; omega
  ·subst h; simp at la lb lc ld la' lb' lc' ld'; omega
  ·subst h; simp at la lb lc ld la' lb' lc' ld'; omega
  ·have : i = 3 := by omega
   subst this; simp at la lb lc ld la' lb' lc' ld'; omega
  ·have : i = 3 := by omega
   subst this; simp at la lb lc ld la' lb' lc' ld'; omega
 ·have ei : i = 4 := by omega
  subst ei
  obtain ⟨k0, k4, ca, cb, cc, cd, na, nb, nc, nd⟩ := hc
  simp at la lb lc ld
  have hlen : (Sl.part (Sl.lit [[.int a], [.int b], [.int c], [.int d]]) 0 k).len = k := by rw [len_part k0]; omega
  refine ⟨by decide, k0, k4, by unfold p_Clone16 Lim; rw [hlen]; omega, fun l rl hq => ⟨⟨⟨?_, fun hz => ?_⟩, ?_, by have := hq.1; rw [hlen] at this; omega⟩, trivial⟩⟩
  ·intro hp
   have hll := hq.1
   rw [hlen] at hll
   rw [hq.2 _ (by omega) (by omega), hll, int_part0 (by omega)]
   rcases (show k = 1 \/ k = 2 \/ k = 3 \/ k = 4 by omega) with rfl | rfl | rfl | rfl
   ·exact na rfl
   ·exact nb rfl
   ·exact nc rfl
   ·exact nd rfl
  ·have hll := hq.1
   rw [hlen] at hll
   have : s = 0 := by omega
   simp only [decide_eq_false_iff_not]
   intro hn
   rw [if_pos hn] at hs
   omega
  ·have hv : vl l = s := by
    have h1 : vl l = val 65536 (Sl.part (Sl.lit [[.int a], [.int b], [.int c], [.int d]]) 0 k) := hq.val _
    rw [h1, val_part0 k0]
    have e : ∀ j : Nat, vto 65536 (Sl.lit [[.int a], [.int b], [.int c], [.int d]]) (j : Int) = valN 65536 (dg (Sl.lit [[.int a], [.int b], [.int c], [.int d]])) j := fun j => rfl
    have e0 : dg (Sl.lit [[.int a], [.int b], [.int c], [.int d]]) 0 = a := rfl
    have e1 : dg (Sl.lit [[.int a], [.int b], [.int c], [.int d]]) 1 = b := rfl
    have e2 : dg (Sl.lit [[.int a], [.int b], [.int c], [.int d]]) 2 = c := rfl
    have e3 : dg (Sl.lit [[.int a], [.int b], [.int c], [.int d]]) 3 = d := rfl
    rcases (show k = 0 \/ k = 1 \/ k = 2 \/ k = 3 \/ k = 4 by omega) with rfl | rfl | rfl | rfl | rfl
    ·rw [vto_zero]; omega
    ·have := e 1
     simp only [valN, e0] at this
     have h : vto 65536 (Sl.lit [[.int a], [.int b], [.int c], [.int d]]) 1 = _ := this
     rw [h]; omega
    ·have := e 2
     simp only [valN, e0, e1] at this
     have h : vto 65536 (Sl.lit [[.int a], [.int b], [.int c], [.int d]]) 2 = _ := this
     rw [h]; omega
    ·have := e 3
     simp only [valN, e0, e1, e2] at this
     have h : vto 65536 (Sl.lit [[.int a], [.int b], [.int c], [.int d]]) 3 = _ := this
     rw [h]; omega
    ·have := e 4
     simp only [valN, e0, e1, e2, e3] at this
     have h : vto 65536 (Sl.lit [[.int a], [.int b], [.int c], [.int d]]) 4 = _ := this
     rw [h]; omega
   unfold zv
   rw [hv, hs]
   simp only [decide_eq_true_eq]
   split <;> omega
end Go.Sx.N
namespace Go.Sx.N
theorem NW.same {n m : Bool} {a b : Sl} (ra : Dig 65536 a) (rb : Dig 65536 b) (ha : NW n a) (hb : NW m b) (h : zv n a = zv m b) : n = m /\ SameI a b := by
 have a0 := (ra.bound (B := 65536) (by decide)).1
 have b0 := (rb.bound (B := 65536) (by decide)).1
 have za := val_zero_iff (B := 65536) (by decide) ra ha.1
 have zb := val_zero_iff (B := 65536) (by decide) rb hb.1
 have a0 : 0 <= vl a := a0
 have b0 : 0 <= vl b := b0
 have za : vl a = 0 ↔ a.len = 0 := za
 have zb : vl b = 0 ↔ b.len = 0 := zb
 unfold zv at h
 have hv : vl a = vl b := by
  cases n <;> cases m <;> simp at h <;> omega
 have hs : n = m := by
  cases n <;> cases m <;> simp at h
  ·rfl
  ·have : a.len = 0 := za.1 (by omega)
   have : b.len = 0 := zb.1 (by omega)
   exact absurd (hb.2 this) (by decide)
  ·have : a.len = 0 := za.1 (by omega)
   exact absurd (ha.2 this) (by decide)
  ·rfl
 exact ⟨hs, same_of_val (B := 65536) (by decide) ra ha.1 rb hb.1 hv⟩
theorem natAbs_zv {n : Bool} {a : Sl} (ra : Dig 65536 a) : ((zv n a).natAbs : Int) = vl a := by
 have : 0 <= vl a := (ra.bound (B := 65536) (by decide)).1
 unfold zv
 split <;> omega
theorem IsQ.fq {q : Rat} {nn dn : Bool} {nl dl : Sl} (h : IsQ q nn nl dn dl) : fq nn nl dl = q := by
 unfold N.fq
 rw [h.2.1, h.2.2.2.2]
 exact Rat.num_divInt_den q
theorem lowF.isQ {nn dn : Bool} {nl dl : Sl} (h : lowF nn nl dn dl) : IsQ (fq nn nl dl) nn nl dn dl := by
 obtain ⟨q, hq⟩ := h
 rw [hq.fq]
 exact hq
theorem okF.isQ {nn dn : Bool} {nl dl : Sl} (h : okF nn nl dn dl) : IsQ (fq nn nl dl) nn nl dn dl := h.1.isQ
theorem IsQ.lowF {q : Rat} {nn dn : Bool} {nl dl : Sl} (h : IsQ q nn nl dn dl) : lowF nn nl dn dl := ⟨q, h⟩
theorem IsQ.den_pos {q : Rat} {nn dn : Bool} {nl dl : Sl} (h : IsQ q nn nl dn dl) : 0 < vl dl := by
 rw [h.2.2.2.2]
 have := q.den_pos
 omega
theorem IsQ.den_len {q : Rat} {nn dn : Bool} {nl dl : Sl} (h : IsQ q nn nl dn dl) (rd : Dig 65536 dl) : 0 < dl.len := (val_pos_iff (B := 65536) (by decide) rd h.2.2.2.1).1 h.den_pos
theorem IsQ.nwd {q : Rat} {nn dn : Bool} {nl dl : Sl} (h : IsQ q nn nl dn dl) : NW dn dl := ⟨h.2.2.2.1, fun _ => h.2.2.1⟩
theorem IsQ.zd {q : Rat} {nn dn : Bool} {nl dl : Sl} (h : IsQ q nn nl dn dl) : zv dn dl = (q.den : Int) := by
 rw [<- h.2.2.2.2]
 unfold zv
 rw [h.2.2.1]
 simp
theorem IsQ.gcd {q : Rat} {nn dn : Bool} {nl dl : Sl} (h : IsQ q nn nl dn dl) (rn : Dig 65536 nl) : Int.gcd (vl nl) (vl dl) = 1 := by
 have hr := q.reduced
 rw [h.2.2.2.2, <- natAbs_zv (n := nn) rn, h.2.1]
 simpa [Int.gcd] using hr
theorem isQ_of_gcd {nn dn : Bool} {nl dl : Sl} (rn : Dig 65536 nl) (hn : NW nn nl) (hdn : dn = false) (hd : Nrm dl) (hp : 0 < vl dl) (hg : Int.gcd (vl nl) (vl dl) = 1) : IsQ (fq nn nl dl) nn nl dn dl := by
 have hg' : Int.gcd (vl dl) (zv nn nl) = 1 := by
  rw [Int.gcd_comm]
  have : Int.gcd (zv nn nl) (vl dl) = Int.gcd (vl nl) (vl dl) := by
   unfold zv
   split
   ·exact Int.neg_gcd
   ·rfl
  rw [this, hg]
 refine ⟨hn, ?_, hdn, hd, ?_⟩
 ·unfold fq
  rw [Rat.num_divInt, hg', Int.sign_eq_one_of_pos hp]
  simp
 ·unfold fq
  rw [Rat.den_divInt, hg', if_neg (by omega)]
  simp
  omega
theorem IsQ.len_num {q : Rat} {nn dn : Bool} {nl dl : Sl} (h : IsQ q nn nl dn dl) (rn : Dig 65536 nl) : nl.len <= 256 ↔ (q.num.natAbs : Int) < cap256 := by
 rw [<- h.2.1, natAbs_zv rn, cap256_eq]
 exact len_le_of_val (B := 65536) (by decide) rn h.1.1 256
theorem IsQ.len_den {q : Rat} {nn dn : Bool} {nl dl : Sl} (h : IsQ q nn nl dn dl) (rd : Dig 65536 dl) : dl.len <= 256 ↔ (q.den : Int) < cap256 := by
 rw [<- h.2.2.2.2, cap256_eq]
 exact len_le_of_val (B := 65536) (by decide) rd h.2.2.2.1 256
theorem IsQ.fit {q : Rat} {nn dn : Bool} {nl dl : Sl} (h : IsQ q nn nl dn dl) (rn : Dig 65536 nl) (rd : Dig 65536 dl) : (nl.len <= 256 /\ dl.len <= 256) ↔ fitQ q := by
 unfold fitQ
 rw [h.len_num rn, h.len_den rd]
theorem IsQ.ok {q : Rat} {nn dn : Bool} {nl dl : Sl} (h : IsQ q nn nl dn dl) (rn : Dig 65536 nl) (rd : Dig 65536 dl) (hf : fitQ q) : okF nn nl dn dl := ⟨h.lowF, (h.fit rn rd).2 hf⟩
theorem okF.fit {nn dn : Bool} {nl dl : Sl} (h : okF nn nl dn dl) (rn : Dig 65536 nl) (rd : Dig 65536 dl) : fitQ (fq nn nl dl) := (h.isQ.fit rn rd).1 h.2
theorem IsQ.same {q : Rat} {a c a' c' : Bool} {b d b' d' : Sl} (h : IsQ q a b c d) (h' : IsQ q a' b' c' d') (rb : Dig 65536 b) (rd : Dig 65536 d) (rb' : Dig 65536 b') (rd' : Dig 65536 d') : (a = a' /\ SameI b b') /\ c = c' /\ SameI d d' :=
 ⟨NW.same rb rb' h.1 h'.1 (by rw [h.2.1, h'.2.1]), by rw [h.2.2.1, h'.2.2.1], (NW.same rd rd' h.nwd h'.nwd (by rw [h.zd, h'.zd])).2⟩
theorem IsQ.of_same {q : Rat} {a c a' c' : Bool} {b d b' d' : Sl} (h : IsQ q a b c d) (e1 : a' = a) (s1 : SameI b' b) (e2 : c' = c) (s2 : SameI d' d) : IsQ q a' b' c' d' := by
 subst e1 e2
 have v1 : vl b' = vl b := s1.val _
 have v2 : vl d' = vl d := s2.val _
 refine ⟨⟨s1.nrm h.1.1, fun hz => h.1.2 (by rw [<- s1.1]; exact hz)⟩, ?_, h.2.2.1, s2.nrm h.2.2.2.1, by rw [v2]; exact h.2.2.2.2⟩
 unfold zv
 rw [v1]
 exact h.2.1
theorem ok_iff {nn dn : Bool} {nl dl : Sl} (rn : Dig 65536 nl) (rd : Dig 65536 dl) : okF nn nl dn dl ↔ nl.len <= 256 /\ dl.len <= 256 /\ NW nn nl /\ NW dn dl /\ dn = false /\ dl.len ≠ 0 /\ Int.gcd (vl nl) (vl dl) = 1 := by
 constructor
 ·intro h
  have hq := h.isQ
  have := hq.den_len rd
  exact ⟨h.2.1, h.2.2, hq.1, hq.nwd, hq.2.2.1, by omega, hq.gcd rn⟩
 ·rintro ⟨h1, h2, h3, h4, h5, h6, h7⟩
  have h0 := len0 dl
  exact ⟨(isQ_of_gcd rn h3 h5 h4.1 ((val_pos_iff (B := 65536) (by decide) rd h4.1).2 (by omega)) h7).lowF, h1, h2⟩
theorem one_iff {l : Sl} (rl : Dig 65536 l) (hn : Nrm l) : (l.len = 1 /\ l.int 0 0 = 1) ↔ vl l = 1 := by
 have one : ∀ h : l.len = 1, vl l = l.int 0 0 := fun h => by
  unfold vl
  rw [val_vto, h]
  have := vto_succ 65536 l (i := 0) (by omega)
  rw [vto_zero] at this
  have e2 : (0 : Int) + 1 = 1 := rfl
  rw [e2] at this
  rw [this]
  show 0 + l.int 0 0 * 65536 ^ 0 = l.int 0 0
  rw [Int.pow_zero]
  omega
 constructor
 ·intro h
  rw [one h.1, h.2]
 ·intro h
  have h1 := (len_le_of_val (B := 65536) (by decide) rl hn 1).2 (by
   have h : val 65536 l = 1 := h
   rw [h]; decide)
  have h2 := (val_pos_iff (B := 65536) (by decide) rl hn).1 (by
   have h : val 65536 l = 1 := h
   rw [h]; decide)
  have h3 : l.len = 1 := by omega
  exact ⟨h3, by rw [<- one h3]; exact h⟩
theorem div_exact {g n q r : Int} (hg : 0 < g) (hd : g ∣ n) (h : n = g * q + r) (h0 : 0 <= r) (h1 : r < g) : n / g = q := by
 obtain ⟨k, rfl⟩ := hd
 have hr : r = g * (k - q) := by rw [Int.mul_sub]; omega
 have : k = q := by
  rcases Int.lt_trichotomy (k - q) 0 with h' | h' | h'
  ·have : g * (k - q) <= g * (-1) := Int.mul_le_mul_of_nonneg_left (by omega) (by omega)
   omega
  ·omega
  ·have : g * 1 <= g * (k - q) := Int.mul_le_mul_of_nonneg_left (by omega) (by omega)
   omega
 rw [Int.mul_ediv_cancel_left _ (by omega), this]
theorem isQ_of_div {nn dn : Bool} {nl dl : Sl} {N D g : Int} (rd : Dig 65536 dl) (hn : NW nn nl) (hd : NW dn dl) (hD : 0 < D) (hg : g = (Int.gcd N D : Nat)) (h1 : zv nn nl = N / g) (h2 : zv dn dl = D / g) : IsQ (Rat.divInt N D) nn nl dn dl := by
 have hg0 : 0 < g := by
  have : 0 < Int.gcd N D := Int.gcd_pos_of_ne_zero_right _ (by omega)
  omega
 have hgD : g ∣ D := by rw [hg]; exact Int.gcd_dvd_right ..
 have hDg : 0 < D / g := Int.ediv_pos_of_pos_of_dvd hD (by omega) hgD
 have hdv : 0 <= vl dl := (rd.bound (B := 65536) (by decide)).1
 have hdn : dn = false := by
  cases dn
  ·rfl
  ·unfold zv at h2
   simp at h2
   omega
 have hgc : ((D.gcd N : Nat) : Int) = g := by rw [hg, Int.gcd_comm]
 refine ⟨hn, ?_, hdn, hd.1, ?_⟩
 ·rw [Rat.num_divInt, Int.sign_eq_one_of_pos hD, hgc, Int.one_mul, h1]
 ·rw [Rat.den_divInt, if_neg (by omega)]
  have e : vl dl = D / g := by
   rw [<- h2]
   unfold zv
   rw [hdn]
   simp
  rw [e]
  have : D.natAbs / D.gcd N = (D / g).natAbs := by
   have e1 : g = ((D.gcd N : Nat) : Int) := hgc.symm
   have e2 : D = ((D.natAbs : Nat) : Int) := by omega
   have e3 : D / g = ((D.natAbs / D.gcd N : Nat) : Int) := by rw [Int.natCast_ediv, <- e2, <- e1]
   rw [e3]
   exact (Int.natAbs_natCast _).symm
  rw [this]
  omega
end Go.Sx.N
namespace Go.Sx.N
theorem opposite_ok : V_opposite := by
 intro n l rl hp
 simp only [Bool.decide_eq_true, decide_false] at hp ⊢
 have h0 := len0 l
 refine ⟨fun h _ => ⟨hp, fun r _ hr => ⟨⟨hr, ?_⟩, trivial⟩⟩, fun h => ⟨hp, fun r _ hr => ⟨⟨hr, ?_⟩, trivial⟩⟩⟩
 ·have : n = false := by simpa using h
  rw [this]
  simp
 ·have : n = true := by simpa using h
  rw [this]
  simp
theorem opposite_nw {n n' : Bool} {l l' : Sl} (h : q_opposite n l n' l') (hn : NW n l) : NW n' l' /\ zv n' l' = - zv n l /\ l'.len = l.len := by
 obtain ⟨hs, hb⟩ := h
 have hv : vl l' = vl l := hs.val _
 have h0 := len0 l
 refine ⟨⟨hs.nrm hn.1, fun hz => ?_⟩, ?_, hs.1⟩
 ·cases n'
  ·rfl
  ·have := (hb.1 rfl).2
   rw [hs.1] at hz
   omega
 ·unfold zv
  rw [hv]
  by_cases hl : l.len = 0
  ·have hnf := hn.2 hl
   have : n' = false := by
    cases n'
    ·rfl
    ·have := (hb.1 rfl).2; omega
   have e : vl l = 0 := by
    unfold vl
    rw [val_vto, hl]
    rfl
   rw [this, hnf, e]
   simp
  ·cases n
   ·have : n' = true := hb.2 ⟨rfl, by omega⟩
    rw [this]; simp
   ·have : n' = false := by
     cases n'
     ·rfl
     ·exact absurd (hb.1 rfl).1 (by decide)
    rw [this]; simp
theorem fDivisor_ok : V_fDivisor := by
 intro n a ra m b rb hp
 simp only [Bool.decide_eq_true] at hp ⊢
 exact ⟨hp, fun neg l rl e re hq => ⟨⟨hq.1, hq.2.1, hq.2.2.1⟩, trivial⟩⟩
theorem fPlus_ok : V_fPlus := by
 intro n a ra m b rb hp
 simp only [Bool.decide_eq_true] at hp ⊢
 exact ⟨hp, fun neg l rl e re hq => ⟨⟨hq.1, hq.2.1⟩, trivial⟩⟩
theorem fTimes_ok : V_fTimes := by
 intro n a ra m b rb hp
 simp only [Bool.decide_eq_true] at hp ⊢
 exact ⟨hp, fun neg l rl e re hq => ⟨⟨hq.1, hq.2.1⟩, trivial⟩⟩
theorem fDivide_ok : V_fDivide := by
 intro n a ra m b rb hp
 simp only [Bool.decide_eq_true] at hp ⊢
 refine ⟨hp, fun qn q rq rn r rr e re hq => ?_⟩
 have T : q_fDivide n a m b qn q rn r /\ True := ⟨⟨hq.1, hq.2.1, hq.2.2.1, hq.2.2.2.1, hq.2.2.2.2.1⟩, trivial⟩
 exact ⟨⟨T, T⟩, T⟩
theorem len_zv {n : Bool} {l : Sl} (rl : Dig 65536 l) (hn : NW n l) {k : Nat} (h : ((zv n l).natAbs : Int) < 65536 ^ k) : l.len <= k := by
 rw [natAbs_zv rl] at h
 exact (len_le_of_val (B := 65536) (by decide) rl hn.1 k).2 h
theorem zv_len {n : Bool} {l : Sl} (rl : Dig 65536 l) {k : Nat} (h : l.len <= k) : ((zv n l).natAbs : Int) < 65536 ^ k := by
 rw [natAbs_zv rl]
 exact val_lt_cap rl h
theorem times_len {n m neg : Bool} {a b l : Sl} (ra : Dig 65536 a) (rb : Dig 65536 b) (rl : Dig 65536 l) (hn : NW neg l) (h : zv neg l = zv n a * zv m b) {k : Nat} (hk : a.len + b.len <= k) : l.len <= k := by
 refine len_zv rl hn ?_
 rw [h, Int.natAbs_mul]
 have h1 := zv_len (n := n) ra (k := a.n) (by unfold Sl.len; omega)
 have h2 := zv_len (n := m) rb (k := b.n) (by unfold Sl.len; omega)
 have h3 := pow_mono (B := 65536) (by decide) (show a.n + b.n <= k by unfold Sl.len at hk; omega)
 rw [Int.pow_add] at h3
 rw [Int.natCast_mul]
 have h4 := pos_pow (B := 65536) (by decide) a.n
 have g1 : ((zv n a).natAbs : Int) * ((zv m b).natAbs : Int) <= 65536 ^ a.n * ((zv m b).natAbs : Int) := Int.mul_le_mul_of_nonneg_right (Int.le_of_lt h1) (Int.natCast_nonneg _)
 have g2 : (65536 : Int) ^ a.n * ((zv m b).natAbs : Int) < 65536 ^ a.n * 65536 ^ b.n := Int.mul_lt_mul_of_pos_left h2 h4
 exact Int.lt_of_lt_of_le (Int.lt_of_le_of_lt g1 g2) h3
theorem plus_len {n m neg : Bool} {a b l : Sl} (ra : Dig 65536 a) (rb : Dig 65536 b) (rl : Dig 65536 l) (hn : NW neg l) {k : Nat} (h : zv neg l = zv n a + zv m b \/ zv neg l = zv n a - zv m b) (ha : a.len <= k) (hb : b.len <= k) : l.len <= (k + 1 : Nat) := by
 refine len_zv rl hn ?_
 have h1 := zv_len (n := n) ra ha
 have h2 := zv_len (n := m) rb hb
 have h3 : (65536 : Int) ^ (k + 1) = 65536 ^ k * 65536 := Int.pow_succ ..
 have h4 := pos_pow (B := 65536) (by decide) k
 generalize (65536 : Int) ^ k = P at *
 generalize (65536 : Int) ^ (k + 1) = Q at *
 rcases h with h | h <;> rw [h] <;> omega
theorem lowest_core {n m : Bool} {a b : Sl} (ra : Ranged a [some .u16]) (rb : Ranged b [some .u16]) (ha : okW n a) (hb : okW m b) (hb0 : 0 < b.len) (hm : 0 < zv m b) {N D : Int} (eN : zv n a = N) (eD : zv m b = D)
  {gn : Bool} {g : Sl} (rg : Ranged g [some .u16]) (hg : q_fDivisor n a m b gn g) :
  p_fDivide n a gn g /\ ∀ (qn : Bool) (q : Sl), Ranged q [some .u16] -> ∀ (rn : Bool) (r : Sl), Ranged r [some .u16] -> q_fDivide n a gn g qn q rn r -> p_fDivide m b gn g /\ ∀ (pn : Bool) (p : Sl), Ranged p [some .u16] -> ∀ (sn : Bool) (s : Sl), Ranged s [some .u16] -> q_fDivide m b gn g pn p sn s -> IsQ (Rat.divInt N D) qn q pn p := by
 obtain ⟨g1, g2, g3⟩ := hg
 have dg := ranged16 rg
 have hgz : zv gn g = (Int.gcd N D : Nat) := by
  have e1 : Int.gcd N D = Int.gcd (vl a) (vl b) := by
   rw [<- eN, <- eD]
   have h1 := natAbs_zv (n := n) (ranged16 ra)
   have h2 := natAbs_zv (n := m) (ranged16 rb)
   unfold Int.gcd
   congr 1 <;> omega
  rw [e1, <- g3]
  unfold zv
  rw [g2]
  simp
 have hD : 0 < D := by omega
 have hgp : 0 < zv gn g := by
  rw [hgz]
  have := Int.gcd_pos_of_ne_zero_right N (show D ≠ 0 by omega)
  omega
 have hgl : 0 < g.len := by
  refine (val_pos_iff (B := 65536) (by decide) dg g1.1).1 ?_
  have : zv gn g = vl g := by unfold zv; rw [g2]; simp
  rw [this] at hgp
  exact hgp
 have hgok : okW gn g := by
  refine ⟨g1, len_zv dg g1 (k := 1024) ?_⟩
  have h1 := zv_len (n := m) (ranged16 rb) hb.2
  have h1 : ((zv m b).natAbs : Int) < 65536 ^ 1024 := h1
  have h2 : zv gn g <= D := by
   rw [hgz]
   exact Int.le_of_dvd hD (Int.gcd_dvd_right ..)
  generalize (65536 : Int) ^ 1024 = P at *
  omega
 refine ⟨⟨ha, hgok, hgl⟩, fun qn q rq rn r rr hq => ⟨⟨hb, hgok, hgl⟩, fun pn p rp sn s rs hp => ?_⟩⟩
 obtain ⟨q1, q2, q3, q4, _⟩ := hq
 obtain ⟨p1, p2, p3, p4, _⟩ := hp
 rw [eN] at q3
 rw [eD] at p3
 have hdN : zv gn g ∣ N := by rw [hgz]; exact Int.gcd_dvd_left ..
 have hdD : zv gn g ∣ D := by rw [hgz]; exact Int.gcd_dvd_right ..
 exact isQ_of_div (ranged16 rp) q1 p1 hD hgz (div_exact hgp hdN q3 (q4 hgp).1 (q4 hgp).2).symm (div_exact hgp hdD p3 (p4 hgp).1 (p4 hgp).2).symm
theorem lowest_ok : V_lowest := by
  intro n a ra m b rb hp
  simp only [Bool.decide_eq_true] at hp ⊢
  obtain ⟨ha, hb, hb0⟩ := hp
  have la : Lim a := by have := ha.2; unfold Lim; omega
  have lb : Lim b := by have := hb.2; unfold Lim; omega
  have hbv : 0 < vl b := (val_pos_iff (B := 65536) (by decide) (ranged16 rb) hb.1.1).2 hb0
  refine ⟨fun hm => ?_, fun hm => ⟨⟨ha, hb⟩, fun gn g rg hg => ?_⟩⟩
  · have T : p_opposite n a /\ ∀ (n' : Bool) (a' : Sl), Ranged a' [some .u16] -> q_opposite n a n' a' -> p_opposite m b /\ ∀ (m' : Bool) (b' : Sl), Ranged b' [some .u16] -> q_opposite m b m' b' -> p_fDivisor n' a' m' b' /\ ∀ (gn : Bool) (g : Sl), Ranged g [some .u16] -> q_fDivisor n' a' m' b' gn g ->
        p_fDivide n' a' gn g /\ ∀ (qn : Bool) (q : Sl), Ranged q [some .u16] -> ∀ (rn : Bool) (r : Sl), Ranged r [some .u16] -> q_fDivide n' a' gn g qn q rn r -> p_fDivide m' b' gn g /\ ∀ (pn : Bool) (p : Sl), Ranged p [some .u16] -> ∀ (sn : Bool) (s : Sl), Ranged s [some .u16] -> q_fDivide m' b' gn g pn p sn s -> q_lowest n a m b qn q pn p /\ True := by
      refine ⟨la, fun n' a' ra' h1 => ⟨lb, fun m' b' rb' h2 => ?_⟩⟩
      obtain ⟨w1, e1, l1⟩ := opposite_nw h1 ha.1
      obtain ⟨w2, e2, l2⟩ := opposite_nw h2 hb.1
      have ha' : okW n' a' := ⟨w1, by rw [l1]; exact ha.2⟩
      have hb' : okW m' b' := ⟨w2, by rw [l2]; exact hb.2⟩
      have hz : zv m b = - vl b := by unfold zv; rw [hm]; simp
      refine ⟨⟨ha', hb'⟩, fun gn g rg hg => ?_⟩
      obtain ⟨c1, c2⟩ := lowest_core ra' rb' ha' hb' (by rw [l2]; exact hb0) (by rw [e2, hz]; omega) e1 e2 rg hg
      refine ⟨c1, fun qn q rq rn r rr hq => ?_⟩
      obtain ⟨c3, c4⟩ := c2 qn q rq rn r rr hq
      refine ⟨c3, fun pn p rp sn s rs hp => ⟨?_, trivial⟩⟩
      have := c4 pn p rp sn s rs hp
      rw [Rat.neg_divInt_neg] at this
      exact this
    exact ⟨⟨T, T⟩, T⟩
  · have hz : zv m b = vl b := by unfold zv; rw [if_neg hm]
    obtain ⟨c1, c2⟩ := lowest_core ra rb ha hb hb0 (by rw [hz]; exact hbv) rfl rfl rg hg
    refine ⟨c1, fun qn q rq rn r rr hq => ?_⟩
    obtain ⟨c3, c4⟩ := c2 qn q rq rn r rr hq
    exact ⟨c3, fun pn p rp sn s rs hp => ⟨c4 pn p rp sn s rs hp, trivial⟩⟩
theorem fValid_ok : V_fValid := by
 intro nn nl rn dn dl rd _
 simp only [Bool.decide_eq_true]
 have hn := ranged16 rn
 have hd := ranged16 rd
 have h0 := len0 dl
 have key := ok_iff (nn := nn) (dn := dn) hn hd
 have no : ¬ okF nn nl dn dl -> q_fValid nn nl dn dl (decide False) /\ True := fun h => ⟨by simp only [q_fValid, decide_false, Bool.false_eq_true, false_iff]; exact h, trivial⟩
 refine fun _ => ⟨fun h => no fun hk => by have := key.1 hk; omega, fun h1 _ => ⟨fun h => no fun hk => by have := key.1 hk; omega, fun h2 => ⟨trivial, fun v hv => ⟨fun h => no fun hk => h (hv.2 ⟨(key.1 hk).2.2.1, by omega⟩), fun h3 => ⟨trivial, fun w hw => ⟨fun h => no fun hk => h (hw.2 ⟨(key.1 hk).2.2.2.1, by omega⟩), fun h4 => ⟨fun h => no fun hk => by have := (key.1 hk).2.2.2.2.1; rw [this] at h; exact absurd h (by decide), fun h5 _ => ⟨fun h => no fun hk => by have := key.1 hk; omega, fun h6 => ?_⟩⟩⟩⟩⟩⟩⟩⟩
 have w1 := hv.1 (Classical.not_not.1 h3)
 have w2 := hw.1 (Classical.not_not.1 h4)
 have hdn : dn = false := by simpa using h5
 have gcdCase : p_fDivisor nn nl dn dl /\ ∀ (gn : Bool) (g : Sl), Ranged g [some .u16] -> q_fDivisor nn nl dn dl gn g ->
   ((¬ gn = true -> Small g -> ((g.len = 1 -> (0 : Int) <= 0 /\ (0 : Int) < g.len /\ (Rng .u16 (g.int 0 0) -> q_fValid nn nl dn dl (decide (g.int 0 0 = 1)) /\ True)) /\ (¬ g.len = 1 -> q_fValid nn nl dn dl (decide False) /\ True))) /\ (¬ ¬ gn = true -> q_fValid nn nl dn dl (decide False) /\ True)) := by
  refine ⟨⟨w1, w2⟩, fun gn g rg hg => ?_⟩
  obtain ⟨g1, g2, g3⟩ := hg
  have one := one_iff (ranged16 rg) g1.1
  have hk : okF nn nl dn dl ↔ vl g = 1 := by
   rw [key, g3]
   constructor
   ·intro h; have := h.2.2.2.2.2.2; omega
   ·intro h; exact ⟨by omega, by omega, w1.1, w2.1, hdn, by omega, by omega⟩
  refine ⟨fun _ _ => ⟨fun hl => ⟨by decide, by omega, fun _ => ⟨?_, trivial⟩⟩, fun hl => no fun h => hl (one.2 (hk.1 h)).1⟩, fun h => absurd (by rw [g2]; decide) h⟩
  simp only [q_fValid, decide_eq_true_eq]
  rw [hk, <- one]
  exact ⟨fun h => ⟨hl, h⟩, fun h => h.2⟩
 refine ⟨fun _ _ => ⟨fun hl => ⟨by decide, by omega, fun _ => ⟨fun h1' => ⟨?_, trivial⟩, fun _ => gcdCase⟩⟩, fun _ => gcdCase⟩, fun _ => gcdCase⟩
 have hv1 := (one_iff hd w2.1.1).1 ⟨hl, h1'⟩
 simp only [q_fValid, decide_true, true_iff]
 rw [key, hv1, Int.gcd_one_right]
 exact ⟨by omega, by omega, w1.1, w2.1, hdn, by omega, rfl⟩
theorem fAllValid_ok : V_fAllValid := by
 intro s rs _ hsm
 have hm := small64 hsm
 have h0 := len0 s
 simp only [q_fAllValid, q_fValid, Bool.decide_eq_true, decide_eq_true_eq]
 refine ⟨fun i => 0 <= i /\ i <= s.len /\ ∀ k : Int, 0 <= k -> k < i -> okF (s.bool k 0) (s.sub k 1) (s.bool k 2) (s.sub k 3), fun i => (s.len - i).toNat, ⟨by omega, h0, fun k h1 h2 => absurd h1 (by omega)⟩, fun i _ hj => ?_⟩
 obtain ⟨i0, i1, hk⟩ := hj
 refine ⟨fun hlt => ⟨i0, hlt, fun _ _ => ⟨trivial, fun b hb => ⟨fun hn => ⟨⟨fun h => absurd i0 h, fun h => absurd (hb.2 (h i i0 hlt)) hn⟩, trivial⟩, fun hn => ⟨rsL _ (by omega), ⟨by omega, by omega, fun k k0 k1 => ?_⟩, ?_⟩⟩⟩⟩, fun hge => ⟨⟨fun _ k k0 k1 => hk k k0 (by omega), fun _ => by decide⟩, trivial⟩⟩
 ·by_cases e : k = i
  ·rw [e]; exact hb.1 (Classical.not_not.1 hn)
  ·exact hk k k0 (by omega)
 ·show (s.len - (i + 1)).toNat < (s.len - i).toNat
  omega
theorem isQ_int {n : Int} {nn dn : Bool} {nl dl : Sl} (rd : Dig 65536 dl) (h1 : NW nn nl) (h2 : zv nn nl = n) (h3 : NW dn dl) (h4 : zv dn dl = 1) : IsQ (n : Rat) nn nl dn dl := by
 have h0 : 0 <= vl dl := (rd.bound (B := 65536) (by decide)).1
 have hd : dn = false := by
  cases dn
  ·rfl
  ·unfold zv at h4; simp at h4; omega
 refine ⟨h1, by rw [h2]; rfl, hd, h3.1, ?_⟩
 have : zv dn dl = vl dl := by unfold zv; rw [hd]; simp
 rw [<- this, h4]
 rfl
theorem fFromInt_ok : V_fFromInt := by
 intro n rn _
 refine ⟨trivial, fun nn nl rnl h1 => ⟨trivial, fun dn dl rdl h2 => ?_⟩⟩
 simp only [Bool.decide_eq_true] at h1 h2 ⊢
 exact ⟨⟨isQ_int (ranged16 rdl) h1.1 h1.2.1 h2.1 h2.2.1, h1.2.2, h2.2.2⟩, trivial⟩
theorem lit4_valid {a c a' c' : Bool} {b d b' d' : Sl} : (∀ i : Int, 0 <= i -> i < (Sl.lit [[.bool a, Sl.d b, .bool c, Sl.d d], [.bool a', Sl.d b', .bool c', Sl.d d']]).len ->
  okF ((Sl.lit [[.bool a, Sl.d b, .bool c, Sl.d d], [.bool a', Sl.d b', .bool c', Sl.d d']]).bool i 0) ((Sl.lit [[.bool a, Sl.d b, .bool c, Sl.d d], [.bool a', Sl.d b', .bool c', Sl.d d']]).sub i 1) ((Sl.lit [[.bool a, Sl.d b, .bool c, Sl.d d], [.bool a', Sl.d b', .bool c', Sl.d d']]).bool i 2) ((Sl.lit [[.bool a, Sl.d b, .bool c, Sl.d d], [.bool a', Sl.d b', .bool c', Sl.d d']]).sub i 3)) ↔ okF a b c d /\ okF a' b' c' d' := by
 have e : (Sl.lit [[.bool a, Sl.d b, .bool c, Sl.d d], [.bool a', Sl.d b', .bool c', Sl.d d']]).len = 2 := rfl
 rw [e]
 constructor
 ·intro h
  exact ⟨h 0 (by decide) (by decide), h 1 (by decide) (by decide)⟩
 ·intro h i i0 i1
  rcases (show i = 0 \/ i = 1 by omega) with rfl | rfl
  ·exact h.1
  ·exact h.2
theorem zeroF_nil : zeroF false Sl.nil false Sl.nil := ⟨rfl, rfl, rfl, rfl⟩
theorem resF_long {q : Rat} {nn dn : Bool} {nl dl : Sl} (h : IsQ q nn nl dn dl) (rn : Dig 65536 nl) (rd : Dig 65536 dl) (hl : ¬ (nl.len <= 256 /\ dl.len <= 256)) : resF q false Sl.nil false Sl.nil 3 :=
 ⟨fun hf => absurd ((h.fit rn rd).2 hf) hl, fun _ => ⟨zeroF_nil, rfl⟩⟩
theorem resF_ok {q : Rat} {nn dn : Bool} {nl dl : Sl} (h : IsQ q nn nl dn dl) (rn : Dig 65536 nl) (rd : Dig 65536 dl) (h1 : nl.len <= 256) (h2 : dl.len <= 256) : resF q nn nl dn dl 0 :=
 ⟨fun _ => ⟨h, rfl⟩, fun hf => absurd ((h.fit rn rd).1 ⟨h1, h2⟩) hf⟩
theorem result_end {q : Rat} {nn dn : Bool} {nl dl : Sl} {F : Bool -> Sl -> Bool -> Sl -> Int -> Prop} (hF : ∀ nn nl dn dl e, resF q nn nl dn dl e -> F nn nl dn dl e) (h : IsQ q nn nl dn dl) (rn : Dig 65536 nl) (rd : Dig 65536 dl) :
  Small nl -> ((nl.len > 256 -> F false Sl.nil false Sl.nil 3 /\ True) /\ (¬ nl.len > 256 -> Small dl -> ((dl.len > 256 -> F false Sl.nil false Sl.nil 3 /\ True) /\ (¬ dl.len > 256 -> F nn nl dn dl 0 /\ True)))) :=
 fun _ => ⟨fun hl => ⟨hF _ _ _ _ _ (resF_long h rn rd (by omega)), trivial⟩, fun hl _ => ⟨fun hl' => ⟨hF _ _ _ _ _ (resF_long h rn rd (by omega)), trivial⟩, fun hl' => ⟨hF _ _ _ _ _ (resF_ok h rn rd (by omega) (by omega)), trivial⟩⟩⟩
theorem fq_def {a c : Bool} {b d : Sl} (h : okF a b c d) : fq a b d = Rat.divInt (zv a b) (zv c d) := by
 unfold fq
 have : zv c d = vl d := by unfold zv; rw [h.isQ.2.2.1]; simp
 rw [this]
theorem den_ne {a c : Bool} {b d : Sl} (h : lowF a b c d) : zv c d ≠ 0 := by
 have h1 := h.isQ.den_pos
 have : zv c d = vl d := by unfold zv; rw [h.isQ.2.2.1]; simp
 omega
theorem okF.nw {a c : Bool} {b d : Sl} (h : okF a b c d) : NW a b /\ NW c d := ⟨h.isQ.1, h.isQ.nwd⟩
theorem fAdd_ok : V_fAdd := by
 intro a b rb c d rd a' b' rb' c' d' rd' _
 simp only [Bool.decide_eq_true, decide_false, q_fAllValid, lit4_valid]
 refine ⟨trivial, fun v hv => ⟨fun hn => ⟨⟨fun h => absurd (hv.2 h) hn, fun _ => ⟨zeroF_nil, rfl⟩⟩, trivial⟩, fun hok => ?_⟩⟩
 have hh := hv.1 (Classical.not_not.1 hok)
 obtain ⟨h, h'⟩ := hh
 have l1 := h.2
 have l2 := h'.2
 refine ⟨⟨h.nw.1, h'.nw.2, by omega⟩, fun t1 x1 r1 q1 => ⟨⟨h'.nw.1, h.nw.2, by omega⟩, fun t2 x2 r2 q2 => ?_⟩⟩
 have y1 := times_len (k := 512) (ranged16 rb) (ranged16 rd') (ranged16 r1) q1.1 q1.2 (by omega)
 have y2 := times_len (k := 512) (ranged16 rb') (ranged16 rd) (ranged16 r2) q2.1 q2.2 (by omega)
 refine ⟨⟨⟨q1.1, by omega⟩, ⟨q2.1, by omega⟩⟩, fun t3 x3 r3 q3 => ⟨⟨h.nw.2, h'.nw.2, by omega⟩, fun t4 x4 r4 q4 => ?_⟩⟩
 have y3 := plus_len (ranged16 r1) (ranged16 r2) (ranged16 r3) q3.1 (.inl q3.2) y1 y2
 have y4 := times_len (k := 512) (ranged16 rd) (ranged16 rd') (ranged16 r4) q4.1 q4.2 (by omega)
 have hne : zv t4 x4 ≠ 0 := by rw [q4.2]; exact Int.mul_ne_zero (den_ne h.1) (den_ne h'.1)
 have hx4 : 0 < x4.len := by
  have := len0 x4
  rcases Int.lt_or_le 0 x4.len with g | g
  ·exact g
  ·exfalso
   have e : vl x4 = 0 := (val_zero_iff (B := 65536) (by decide) (ranged16 r4) q4.1.1).2 (by omega)
   unfold zv at hne
   rw [e] at hne
   simp at hne
 refine ⟨⟨⟨q3.1, by omega⟩, ⟨q4.1, by omega⟩, hx4⟩, fun nn nl rn dn dl rdl hq => ?_⟩
 have hq : IsQ (Rat.divInt (zv t3 x3) (zv t4 x4)) nn nl dn dl := hq
 have e : Rat.divInt (zv t3 x3) (zv t4 x4) = fq a b d + fq a' b' d' := by
  rw [q3.2, q1.2, q2.2, q4.2, fq_def h, fq_def h', Rat.divInt_add_divInt _ _ (den_ne h.1) (den_ne h'.1)]
 rw [e] at hq
 exact result_end (F := fun nn nl dn dl e => q_fAdd a b c d a' b' c' d' nn nl dn dl e) (fun nn nl dn dl e hr => ⟨fun _ => hr, fun hn => absurd ⟨h, h'⟩ hn⟩) hq (ranged16 rn) (ranged16 rdl)
theorem pos_len {n : Bool} {l : Sl} (rl : Dig 65536 l) (hn : NW n l) (h : zv n l ≠ 0) : 0 < l.len := by
 have := len0 l
 rcases Int.lt_or_le 0 l.len with g | g
 ·exact g
 ·exfalso
  have e : vl l = 0 := (val_zero_iff (B := 65536) (by decide) rl hn.1).2 (by omega)
  unfold zv at h
  rw [e] at h
  simp at h
theorem zv_zero {n : Bool} {l : Sl} (h : l.len = 0) : zv n l = 0 := by
 have e : vl l = 0 := by
  unfold vl
  rw [val_vto, h]
  rfl
 unfold zv
 rw [e]
 simp
theorem fMul_ok : V_fMul := by
 intro a b rb c d rd a' b' rb' c' d' rd' _
 simp only [Bool.decide_eq_true, decide_false, q_fAllValid, lit4_valid]
 refine ⟨trivial, fun v hv => ⟨fun hn => ⟨⟨fun h => absurd (hv.2 h) hn, fun _ => ⟨zeroF_nil, rfl⟩⟩, trivial⟩, fun hok => ?_⟩⟩
 have hh := hv.1 (Classical.not_not.1 hok)
 obtain ⟨h, h'⟩ := hh
 have l1 := h.2
 have l2 := h'.2
 refine ⟨⟨h.nw.1, h'.nw.1, by omega⟩, fun t3 x3 r3 q3 => ⟨⟨h.nw.2, h'.nw.2, by omega⟩, fun t4 x4 r4 q4 => ?_⟩⟩
 have y3 := times_len (k := 512) (ranged16 rb) (ranged16 rb') (ranged16 r3) q3.1 q3.2 (by omega)
 have y4 := times_len (k := 512) (ranged16 rd) (ranged16 rd') (ranged16 r4) q4.1 q4.2 (by omega)
 have hne : zv t4 x4 ≠ 0 := by rw [q4.2]; exact Int.mul_ne_zero (den_ne h.1) (den_ne h'.1)
 refine ⟨⟨⟨q3.1, by omega⟩, ⟨q4.1, by omega⟩, pos_len (ranged16 r4) q4.1 hne⟩, fun nn nl rn dn dl rdl hq => ?_⟩
 have hq : IsQ (Rat.divInt (zv t3 x3) (zv t4 x4)) nn nl dn dl := hq
 have e : Rat.divInt (zv t3 x3) (zv t4 x4) = fq a b d * fq a' b' d' := by
  rw [q3.2, q4.2, fq_def h, fq_def h', Rat.divInt_mul_divInt]
 rw [e] at hq
 exact result_end (F := fun nn nl dn dl e => q_fMul a b c d a' b' c' d' nn nl dn dl e) (fun nn nl dn dl e hr => ⟨fun _ => hr, fun hn => absurd ⟨h, h'⟩ hn⟩) hq (ranged16 rn) (ranged16 rdl)
theorem fq_zero {a c : Bool} {b d : Sl} (rb : Dig 65536 b) (h : lowF a b c d) : fq a b d = 0 ↔ b.len = 0 := by
 have hq := h.isQ
 rw [<- Rat.num_eq_zero, <- hq.2.1]
 constructor
 ·intro hz
  have := natAbs_zv (n := a) rb
  exact (val_zero_iff (B := 65536) (by decide) rb hq.1.1).1 (by
   show vl b = 0
   omega)
 ·exact zv_zero
theorem fDiv_ok : V_fDiv := by
 intro a b rb c d rd a' b' rb' c' d' rd' _
 simp only [Bool.decide_eq_true, decide_false, q_fAllValid, lit4_valid]
 refine ⟨trivial, fun v hv => ⟨fun hn => ⟨⟨fun h => absurd (hv.2 h) hn, fun _ => ⟨zeroF_nil, rfl⟩⟩, trivial⟩, fun hok => ?_⟩⟩
 have hh := hv.1 (Classical.not_not.1 hok)
 obtain ⟨h, h'⟩ := hh
 have l1 := h.2
 have l2 := h'.2
 have hz := fq_zero (ranged16 rb') h'.1
 refine fun _ => ⟨fun hl => ⟨⟨fun _ => ⟨fun hn => absurd (hz.2 hl) hn, fun _ => ⟨zeroF_nil, rfl⟩⟩, fun hn => absurd ⟨h, h'⟩ hn⟩, trivial⟩, fun hl => ?_⟩
 have hnz : fq a' b' d' ≠ 0 := fun h0 => hl (hz.1 h0)
 have hzn : zv a' b' ≠ 0 := by
  intro h0
  have := natAbs_zv (n := a') (ranged16 rb')
  exact hl ((val_zero_iff (B := 65536) (by decide) (ranged16 rb') h'.nw.1.1).1 (by show vl b' = 0; omega))
 refine ⟨⟨h.nw.1, h'.nw.2, by omega⟩, fun t3 x3 r3 q3 => ⟨⟨h.nw.2, h'.nw.1, by omega⟩, fun t4 x4 r4 q4 => ?_⟩⟩
 have y3 := times_len (k := 512) (ranged16 rb) (ranged16 rd') (ranged16 r3) q3.1 q3.2 (by omega)
 have y4 := times_len (k := 512) (ranged16 rd) (ranged16 rb') (ranged16 r4) q4.1 q4.2 (by omega)
 have hne : zv t4 x4 ≠ 0 := by rw [q4.2]; exact Int.mul_ne_zero (den_ne h.1) hzn
 refine ⟨⟨⟨q3.1, by omega⟩, ⟨q4.1, by omega⟩, pos_len (ranged16 r4) q4.1 hne⟩, fun nn nl rn dn dl rdl hq => ?_⟩
 have hq : IsQ (Rat.divInt (zv t3 x3) (zv t4 x4)) nn nl dn dl := hq
 have e : Rat.divInt (zv t3 x3) (zv t4 x4) = fq a b d / fq a' b' d' := by
  rw [q3.2, q4.2, fq_def h, fq_def h', Rat.div_def, Rat.inv_divInt, Rat.divInt_mul_divInt]
 rw [e] at hq
 exact result_end (F := fun nn nl dn dl e => q_fDiv a b c d a' b' c' d' nn nl dn dl e) (fun nn nl dn dl e hr => ⟨fun _ => ⟨fun _ => hr, fun h0 => absurd h0 hnz⟩, fun hn => absurd ⟨h, h'⟩ hn⟩) hq (ranged16 rn) (ranged16 rdl)
end Go.Sx.N
namespace Go.Sx.N
end Go.Sx.N
