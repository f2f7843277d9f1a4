/-
 Growth agrees with its reference, at the limits too: the law's condition. Conditions: none.
-/
import Derived.Test.YtclonhmgeabdeaaGreatDoorGroR
import Derived.Test.YtclonhmgeabdeaaGreatDoorNumVWSmall
set_option linter.unusedVariables false
set_option linter.unusedSimpArgs false
namespace Go.Sx.N
theorem room9 {s : Sl} (h : s.len <= 256) : roomN s.n := by
 have h : (s.n : Int) <= 256 := h
 unfold roomN
 omega
theorem tabB_sub {s : Sl} (hn : s.len <= 400) (h : ∀ i : Int, 0 <= i -> i < s.len -> (s.sub i 4).len <= 256 /\ (s.sub i 6).len <= 256) : tabB s := by
 have hn : (s.n : Int) <= 400 := hn
 refine ⟨by omega, fun i hi => ?_⟩
 have := h i (Int.natCast_nonneg _) (by show (i : Int) < (s.n : Int); omega)
 exact ⟨room9 this.1, room9 this.2⟩
theorem cpi_tab {n : ByteArray} {two : Bool} {s : Sl} (h : q_cpi n two s) : okN n /\ tabB s := by
 obtain ⟨e, _, hl, r0, r1, r2⟩ := h
 refine ⟨by rw [e]; unfold okN cpiN ylen; decide, tabB_sub (by omega) fun i i0 i1 => ?_⟩
 have e3 : i = 0 \/ i = 1 \/ i = 2 := by omega
 rcases e3 with rfl | rfl | rfl
 ·exact r0.2.2.2.1.2
 ·exact r1.2.2.2.1.2
 ·exact r2.2.2.2.1.2
theorem lit3_tab {x2 x3 x4 x9 x10 x11 x16 x17 x18 : Int} {b5 b7 b12 b14 b19 b21 : Bool} {s6 s8 s13 s15 s20 s22 : Sl} (h1 : s6.len <= 256 /\ s8.len <= 256) (h2 : s13.len <= 256 /\ s15.len <= 256) (h3 : s20.len <= 256 /\ s22.len <= 256) :
  tabB (Sl.lit [[.int x2, .int x3, .int x4, .bool b5, Sl.d s6, .bool b7, Sl.d s8], [.int x9, .int x10, .int x11, .bool b12, Sl.d s13, .bool b14, Sl.d s15], [.int x16, .int x17, .int x18, .bool b19, Sl.d s20, .bool b21, Sl.d s22]]) := by
 refine tabB_sub (by show ((3 : Nat) : Int) <= 400; decide) fun i i0 i1 => ?_
 have i1 : i < ((3 : Nat) : Int) := i1
 have e3 : i = 0 \/ i = 1 \/ i = 2 := by omega
 rcases e3 with rfl | rfl | rfl
 ·exact h1
 ·exact h2
 ·exact h3
theorem lit1_tab {x2 x3 x4 : Int} {b5 b7 : Bool} {s6 s8 : Sl} (h1 : s6.len <= 256 /\ s8.len <= 256) : tabB (Sl.lit [[.int x2, .int x3, .int x4, .bool b5, Sl.d s6, .bool b7, Sl.d s8]]) := by
 refine tabB_sub (by show ((1 : Nat) : Int) <= 400; decide) fun i i0 i1 => ?_
 have i1 : i < ((1 : Nat) : Int) := i1
 have e3 : i = 0 := by omega
 subst e3
 exact h1
theorem lit4 {q : Rat} {a : Bool} {b : Sl} {c : Bool} {d : Sl} (h : litF q a b c d) : b.len <= 256 /\ d.len <= 256 := ⟨by have := h.2.1; omega, by have := h.2.2; omega⟩
theorem frac_room {n d : Int} {a : Bool} {b : Sl} {c : Bool} {e : Sl} (h : q_kFrac n d a b c e) : roomF b e := ⟨room9 (by have := h.2.1; omega), room9 (by have := h.2.2; omega)⟩
theorem okN_t : okN (bytes [116]) := by unfold okN ylen; decide
theorem okN_long : okN (bytes [108, 111, 110, 103]) := by unfold okN ylen; decide
theorem okN_nil : okN (bytes []) := by unfold okN ylen; decide
theorem nil_room : roomF Sl.nil Sl.nil := ⟨room9 (by decide), room9 (by decide)⟩
theorem nil_tab : tabB Sl.nil := tabB_sub (by decide) fun i i0 i1 => absurd (show i < 0 from i1) (by omega)
set_option maxHeartbeats 4000000 in
theorem WSmall_ok : V_WSmall := by
 intro _
 simp only [Bool.decide_eq_true]
 refine ⟨fun _ => True, trivial, fun s1 _ => ⟨trivial, fun x2 _ x3 _ x4 _ b5 s6 b7 s8 h1 => ⟨trivial, fun x9 _ x10 _ x11 _ b12 s13 b14 s15 h2 => ⟨trivial, fun x16 _ x17 _ x18 _ b19 s20 b21 s22 h3 => ?_⟩⟩⟩⟩
 have k1 := lit4 h1.2.2.2
 have k2 := lit4 h2.2.2.2
 have k3 := lit4 h3.2.2.2
 have three : (3 : Int) ≠ 0 := by decide
 refine ⟨fun x s y _ t => (0 <= x /\ x <= s.len) /\ okN y /\ tabB t, fun x s _ _ _ => (s.len - x).toNat, ⟨⟨Int.le_refl _, len0 s1⟩, okN_t, lit3_tab k1 k2 k3⟩, fun x24 r24 s1 y26 b27 s28 hJ hs => ⟨fun hlt => ?_, fun hge => ?_⟩⟩
 ·have hs := small64 hs
  obtain ⟨⟨f0, _⟩, hy, ht⟩ := hJ
  have q1 : Rng .i64 (x24 + 1) := by rw [rng64]; omega
  have q2 : 0 <= x24 + 1 := by omega
  have q5 : x24 + 1 <= s1.len := by omega
  have q3 : (s1.len - (x24 + 1)).toNat < (s1.len - x24).toNat := by omega
  have q4 : Rng .i64 (x24 - 9) := by rw [rng64]; omega
  refine ⟨fun x => 0 <= x /\ x <= s1.len, fun x => (s1.len - x).toNat, ⟨Int.le_refl _, len0 s1⟩, fun x26 r26 hK _ => ⟨fun hl2 => ?_, fun hg2 => ?_⟩⟩
  ·have g0 : 0 <= x26 := hK.1
   have g1 : Rng .i64 (x26 + 1) := by rw [rng64]; omega
   have g2 : 0 <= x26 + 1 := by omega
   have g6 : x26 + 1 <= s1.len := by omega
   have g3 : (s1.len - (x26 + 1)).toNat < (s1.len - x26).toNat := by omega
   have g4 : Rng .i64 (x24 + x26) := by rw [rng64]; omega
   have g5 : Rng .i64 ((x24 + x26).tmod 3) := by rw [Int.tmod_eq_emod_of_nonneg (by omega), rng64]; omega
   simp only [q_grows, q_yearsL, p_yearsL, q_WSmall, p_kFrac, p_cpi, Bool.decide_eq_true]
   repeat' first | with_reducible apply And.intro | intro _ | with_reducible assumption | exact trivial | contradiction | exact ⟨⟨hy, ht⟩, frac_room (by assumption)⟩ | exact ⟨cpi_tab (by assumption), frac_room (by assumption)⟩
  ·simp only [q_grows, q_yearsL, p_yearsL, q_WSmall, p_kFrac, p_cpi, Bool.decide_eq_true]
   repeat' first | with_reducible apply And.intro | intro _ | with_reducible assumption | exact trivial | contradiction | exact ⟨⟨hy, ht⟩, frac_room (by assumption)⟩ | exact ⟨cpi_tab (by assumption), frac_room (by assumption)⟩
 refine ⟨fun x => 0 <= x /\ x <= 4, fun x => (4 - x).toNat, ⟨by decide, by decide⟩, fun x26 r26 hK => ⟨fun hl4 => ?_, fun _ => ?_⟩⟩
 ·have f0 : 0 <= x26 := hK.1
  have q1 : Rng .i64 (x26 + 1) := by rw [rng64]; omega
  have q2 : 0 <= x26 + 1 /\ x26 + 1 <= 4 := ⟨by omega, by omega⟩
  have q3 : (4 - (x26 + 1)).toNat < (4 - x26).toNat := by omega
  have el : (Sl.rep (256 - x26) [(.int 0)]).len = 256 - x26 := by
   show (((256 - x26).toNat : Nat) : Int) = 256 - x26
   omega
  have t0 : x26.tmod 2 = x26 % 2 := Int.tmod_eq_emod_of_nonneg f0
  have t1 : Rng .i64 (x26.tmod 2) := by rw [t0, rng64]; omega
  have t2 : Rng .i64 (365 * x26.tmod 2) := by rw [t0, rng64]; omega
  have t3 : Rng .i64 (1 + 365 * x26.tmod 2) := by rw [t0, rng64]; omega
  refine ⟨trivial, fun x27 _ x28 _ x29 _ b30 s31 b32 s33 h => ⟨by decide, by decide, by rw [rng64]; omega, by omega, Int.le_refl _, by omega, fun _ => ?_⟩⟩
  rw [el]
  have k4 := lit4 h.2.2.2
  refine ⟨fun j _ _ _ _ u _ v => (0 <= j /\ j <= 256 - x26) /\ u.len = 256 - x26 /\ v.len <= 256, fun j _ _ _ _ _ _ _ => (256 - x26 - j).toNat, ⟨⟨Int.le_refl _, by omega⟩, el, k4.2⟩, fun x35 _ x36 _ x37 _ x38 _ b39 s40 b41 s42 hL => ⟨fun hl => ?_, fun _ => ?_⟩⟩
  ·obtain ⟨⟨j0, j1⟩, hu, hv⟩ := hL
   exact ⟨j0, by omega, by rw [rng64]; omega, ⟨⟨by omega, by omega⟩, hu, hv⟩, by show (256 - x26 - (x35 + 1)).toNat < (256 - x26 - x35).toNat; omega⟩
  ·obtain ⟨_, hu, hv⟩ := hL
   have k5 : s40.len <= 256 /\ s42.len <= 256 := ⟨by omega, hv⟩
   have k6 : roomF s40 s42 := ⟨room9 k5.1, room9 k5.2⟩
   refine ⟨by decide, t1, t2, t3, trivial, fun b43 s44 b45 s46 h1 => ⟨⟨⟨okN_long, lit1_tab k5⟩, frac_room h1⟩, fun b47 g1 => ⟨fun n => absurd g1 n, fun _ => ⟨trivial, fun y48 b49 s50 h2 => ⟨⟨cpi_tab h2, k6⟩, fun b51 g2 => ⟨fun n => absurd g2 n, fun _ => ⟨trivial, fun b52 s53 b54 s55 h3 => ⟨⟨⟨okN_long, lit1_tab k5⟩, frac_room h3⟩, fun b56 g3 => ⟨fun n => absurd g3 n, fun _ => ⟨q1, q2, q3⟩⟩⟩⟩⟩⟩⟩⟩⟩⟩
 ·refine ⟨trivial, fun y27 b28 s29 h1 => ⟨trivial, fun y30 b31 s32 h2 => ⟨⟨cpi_tab h2, nil_room⟩, fun b33 g1 => ⟨fun _ => ⟨trivial, fun b34 s35 b36 s37 h3 => ⟨⟨cpi_tab h1, frac_room h3⟩, fun b38 g2 => ⟨fun _ => ⟨trivial, fun b39 s40 b41 s42 h4 => ⟨⟨⟨okN_nil, nil_tab⟩, frac_room h4⟩, fun b43 g3 => ⟨fun _ => ⟨trivial, fun b44 g4 => ⟨g4, trivial⟩⟩, fun n => absurd g3 n⟩⟩⟩, fun n => absurd g2 n⟩⟩⟩, fun n => absurd g1 n⟩⟩⟩⟩
end Go.Sx.N
