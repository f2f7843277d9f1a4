/-
 Small tables, and tables at the limits: the law's condition. Conditions: none.
-/
import Derived.Test.YtbgbcaamipknmaaGreatMemT
import Derived.Test.YtbgbcaamipknmaaGreatNumVTSmall
set_option linter.unusedVariables false
set_option linter.unusedSimpArgs false
namespace Go.Sx.N
theorem sRoom {s : Sl} (h : s.len <= 256) : roomN s.n := by
 have h : (s.n : Int) <= 256 := h
 unfold roomN
 omega
theorem sTab {s : Sl} (hn : s.len <= 1000) (h : ∀ i : Int, 0 <= i -> i < s.len -> (s.sub i 4).len <= 256 /\ (s.sub i 6).len <= 256) : tabB s := by
 have hn : (s.n : Int) <= 1000 := hn
 refine ⟨by omega, fun i hi => ?_⟩
 have := h i (Int.natCast_nonneg _) (by show (i : Int) < (s.n : Int); omega)
 exact ⟨sRoom this.1, sRoom this.2⟩
theorem sTab3 {x2 x3 x4 x9 x10 x11 x16 x17 x18 : Int} {b5 b7 b12 b14 b19 b21 : Bool} {s6 s8 s13 s15 s20 s22 : Sl} (h1 : s6.len <= 256 /\ s8.len <= 256) (h2 : s13.len <= 256 /\ s15.len <= 256) (h3 : s20.len <= 256 /\ s22.len <= 256) :
  tabB (Sl.lit [[.int x2, .int x3, .int x4, .bool b5, Sl.d s6, .bool b7, Sl.d s8], [.int x9, .int x10, .int x11, .bool b12, Sl.d s13, .bool b14, Sl.d s15], [.int x16, .int x17, .int x18, .bool b19, Sl.d s20, .bool b21, Sl.d s22]]) := by
 refine sTab (by show ((3 : Nat) : Int) <= 1000; decide) fun i i0 i1 => ?_
 have i1 : i < ((3 : Nat) : Int) := i1
 have e3 : i = 0 \/ i = 1 \/ i = 2 := by omega
 rcases e3 with rfl | rfl | rfl
 ·exact h1
 ·exact h2
 ·exact h3
theorem sTab2 {x2 x3 x4 x9 x10 x11 : Int} {b5 b7 b12 b14 : Bool} {s6 s8 s13 s15 : Sl} (h1 : s6.len <= 256 /\ s8.len <= 256) (h2 : s13.len <= 256 /\ s15.len <= 256) :
  tabB (Sl.lit [[.int x2, .int x3, .int x4, .bool b5, Sl.d s6, .bool b7, Sl.d s8], [.int x9, .int x10, .int x11, .bool b12, Sl.d s13, .bool b14, Sl.d s15]]) := by
 refine sTab (by show ((2 : Nat) : Int) <= 1000; decide) fun i i0 i1 => ?_
 have i1 : i < ((2 : Nat) : Int) := i1
 have e3 : i = 0 \/ i = 1 := by omega
 rcases e3 with rfl | rfl
 ·exact h1
 ·exact h2
theorem sLit {q : Rat} {a : Bool} {b : Sl} {c : Bool} {d : Sl} (h : litF q a b c d) : b.len <= 256 /\ d.len <= 256 := ⟨by have := h.2.1; omega, by have := h.2.2; omega⟩
theorem sLim {q : Rat} {a : Bool} {b : Sl} {c : Bool} {d : Sl} (h : litF q a b c d) : roomL b d := ⟨sRoom (sLit h).1, sRoom (sLit h).2⟩
theorem sNil : tabB Sl.nil := sTab (by decide) fun i i0 i1 => absurd (show i < 0 from i1) (by omega)
theorem sNilR : roomL Sl.nil Sl.nil := ⟨sRoom (by decide), sRoom (by decide)⟩
theorem okT : okN (bytes [116]) := by unfold okN ylen; decide
theorem okMany : okN (bytes [109, 97, 110, 121]) := by unfold okN ylen; decide
theorem okNil : okN (bytes []) := by unfold okN ylen; decide
theorem okSub {y : ByteArray} (h : okN y) (i : Int) : okN (ysub y i) := by
 unfold okN ylen ysub at *
 rw [ByteArray.size_extract]
 omega
def S3 (x : Int) : Prop := 0 <= x /\ x <= 1000
theorem S3.rng {x : Int} (h : S3 x) : Rng .i64 x := by
 have h : 0 <= x /\ x <= 1000 := h
 rw [rng64]; omega
theorem S3.pred {x : Int} (h : S3 x) : Rng .i64 (x - 1) := by
 have h : 0 <= x /\ x <= 1000 := h
 rw [rng64]; omega
theorem S3.div {x n : Int} (h : S3 x) (hn : 0 < n) : S3 (Int.tdiv x n) := by
 have h : 0 <= x /\ x <= 1000 := h
 rw [Int.tdiv_eq_ediv_of_nonneg h.1]
 refine ⟨Int.ediv_nonneg h.1 (by omega), ?_⟩
 have := Int.ediv_le_self n h.1
 omega
theorem S3.mod {x n : Int} (h : S3 x) (hn : 0 < n) : S3 (Int.tmod x n) := by
 have h : 0 <= x /\ x <= 1000 := h
 rw [Int.tmod_eq_emod_of_nonneg h.1]
 refine ⟨Int.emod_nonneg _ (by omega), ?_⟩
 have a := Int.emod_add_mul_ediv x n
 have b : 0 <= n * (x / n) := Int.mul_nonneg (by omega) (Int.ediv_nonneg h.1 (by omega))
 omega
theorem S3.mul {x y : Int} (h : S3 x) (g : S3 y) : Rng .i64 (x * y) := by
 have h : 0 <= x /\ x <= 1000 := h
 have g : 0 <= y /\ y <= 1000 := g
 have a : 0 <= x * y := Int.mul_nonneg h.1 g.1
 have b : x * y <= 1000 * 1000 := Int.mul_le_mul h.2 g.2 g.1 (by decide)
 rw [rng64]; omega
set_option maxHeartbeats 4000000 in
theorem TSmall_ok : V_TSmall := by
 intro _
 simp only [Bool.decide_eq_true]
 refine ⟨fun x => 0 <= x /\ x <= 729, fun x => (729 - x).toNat, ⟨by decide, by decide⟩, fun x1 r1 hJ => ⟨fun hlt => ?_, fun hge => ?_⟩⟩
 ·have hJ : 0 <= x1 /\ x1 <= 729 := hJ
  have h0 : S3 x1 := ⟨hJ.1, by omega⟩
  have next : Rng .i64 (x1 + 1) /\ ((0 <= x1 + 1 /\ x1 + 1 <= 729) /\ (729 - (x1 + 1)).toNat < (729 - x1).toNat) := ⟨by rw [rng64]; omega, by omega, by omega⟩
  have m : ∀ {x n : Int}, S3 x -> 0 < n -> Rng .i64 (Int.tmod x n) := fun h hn => (h.mod hn).rng
  have d : ∀ {x n : Int}, S3 x -> 0 < n -> Rng .i64 (Int.tdiv x n) := fun h hn => (h.div hn).rng
  refine ⟨by decide, m h0 (by decide), by decide, m h0 (by decide), trivial, fun x2 _ x3 _ x4 _ b5 s6 _ b7 s8 _ h1 => ⟨by decide, d h0 (by decide), by decide, m (h0.div (by decide)) (by decide), by decide, d h0 (by decide), by decide, m (h0.div (by decide)) (by decide), by decide, m h0 (by decide), ((h0.div (by decide)).mod (by decide)).mul (h0.mod (by decide)), by decide, d h0 (by decide), by decide, m (h0.div (by decide)) (by decide), trivial, fun x9 _ x10 _ x11 _ b12 s13 _ b14 s15 _ h2 =>
   ⟨by decide, d h0 (by decide), by decide, m (h0.div (by decide)) (by decide), by decide, d h0 (by decide), by decide, m (h0.div (by decide)) (by decide), by decide, m h0 (by decide), ((h0.div (by decide)).mod (by decide)).mul (h0.mod (by decide)), trivial, fun x16 _ x17 _ x18 _ b19 s20 _ b21 s22 _ h3 => ?_⟩⟩⟩
  have T := sTab3 (x2 := x2) (x3 := x3) (x4 := x4) (x9 := x9) (x10 := x10) (x11 := x11) (x16 := x16) (x17 := x17) (x18 := x18) (b5 := b5) (b7 := b7) (b12 := b12) (b14 := b14) (b19 := b19) (b21 := b21) (sLit h1.2.2.2) (sLit h2.2.2.2) (sLit h3.2.2.2)
  exact ⟨by decide, m h0 (by decide), (h0.mod (by decide)).pred, ⟨okT, T⟩, fun b hb => ⟨fun hn => absurd hb hn, fun _ => ⟨by decide, m h0 (by decide), by decide, m h0 (by decide), (h0.mod (by decide)).pred, by decide, m h0 (by decide), ⟨okT, T⟩, fun b hb => ⟨fun hn => absurd hb hn, fun _ => ⟨by decide, m h0 (by decide),
   fun _ => ⟨by decide, m h0 (by decide), by decide, m h0 (by decide), by decide, m h0 (by decide), trivial, fun x25 _ x26 _ x27 _ b28 s29 _ b30 s31 _ h4 => ⟨⟨⟨okT, T⟩, sLim h4.2.2.2⟩, fun b hb => ⟨fun hn => absurd hb hn, fun _ => next⟩⟩⟩, fun _ => next⟩⟩⟩⟩⟩
 ·refine ⟨trivial, fun x2 _ x3 _ x4 _ b5 s6 _ b7 s8 _ h1 => ⟨trivial, fun x9 _ x10 _ x11 _ b12 s13 _ b14 s15 _ h2 => ?_⟩⟩
  refine ⟨fun x s y _ t => (0 <= x /\ x <= s.len) /\ okN y /\ tabB t, fun x s _ _ _ => (s.len - x).toNat, ⟨⟨Int.le_refl _, len0 _⟩, okT, sTab2 (sLit h1.2.2.2) (sLit h2.2.2.2)⟩, fun x17 r17 s18 _ y19 b20 s21 _ hJ hs => ⟨fun hlt => ?_, fun hge2 => ?_⟩⟩
  ·obtain ⟨⟨a0, a1⟩, ok, tab⟩ := hJ
   refine ⟨fun x => 0 <= x /\ x <= s18.len, fun x => (s18.len - x).toNat, ⟨Int.le_refl _, len0 _⟩, fun x23 r23 hJ2 _ => ⟨fun hlt2 => ?_, fun _ => ?_⟩⟩
   ·have hJ2 : 0 <= x23 /\ x23 <= s18.len := hJ2
    have hs : s18.n <= 140737488355328 := hs
    have sl : s18.len = (s18.n : Int) := rfl
    exact ⟨a0, hlt, fun _ => ⟨hJ2.1, hlt2, fun _ => ⟨a0, hlt, fun _ => ⟨⟨ok, tab⟩, fun b hb => ⟨fun hn => absurd hb hn, fun _ => ⟨a0, hlt, fun _ => ⟨hJ2.1, hlt2, fun _ => ⟨trivial, fun x25 _ x26 _ x27 _ b28 s29 _ b30 s31 _ h3 => ⟨⟨⟨ok, tab⟩, sLim h3.2.2.2⟩, fun b hb => ⟨fun hn => absurd hb hn, fun _ => ⟨a0, hlt, fun _ => ⟨hJ2.1, hlt2, fun _ => ⟨trivial, fun x33 _ x34 _ x35 _ b36 s37 _ b38 s39 _ h4 => ⟨⟨⟨okT, sNil⟩, sLim h4.2.2.2⟩, fun b hb => ⟨fun hn => absurd hb hn, fun _ =>
     ⟨by rw [rng64]; omega, ⟨by omega, by omega⟩, by show (s18.len - (x23 + 1)).toNat < (s18.len - x23).toNat; omega⟩⟩⟩⟩⟩⟩⟩⟩⟩⟩⟩⟩⟩⟩⟩⟩
   ·have hs : s18.n <= 140737488355328 := hs
    have sl : s18.len = (s18.n : Int) := rfl
    exact ⟨a0, hlt, fun _ => ⟨⟨ok, tab⟩, fun b hb => ⟨fun hn => absurd hb hn, fun _ => ⟨a0, hlt, fun _ => ⟨trivial, fun x25 _ x26 _ x27 _ b28 s29 _ b30 s31 _ h3 => ⟨⟨⟨ok, tab⟩, sLim h3.2.2.2⟩, fun b hb => ⟨fun hn => absurd hb hn, fun _ =>
     ⟨by rw [rng64]; omega, ⟨⟨by omega, by omega⟩, ok, tab⟩, by show (s18.len - (x17 + 1)).toNat < (s18.len - x17).toNat; omega⟩⟩⟩⟩⟩⟩⟩⟩
  ·obtain ⟨_, okY, tabY⟩ := hJ
   refine ⟨fun x y _ u => (0 <= x /\ x <= 401) /\ okN y /\ u.len = x /\ ∀ i : Int, 0 <= i -> i < u.len -> (u.sub i 4).len <= 256 /\ (u.sub i 6).len <= 256, fun x _ _ _ => (401 - x).toNat, ⟨⟨by decide, by decide⟩, okMany, rfl, fun i i0 i1 => absurd (show i < 0 from i1) (by omega)⟩, fun x23 r23 y24 b25 s26 _ hJ => ⟨fun hlt => ?_, fun _ => ?_⟩⟩
   ·obtain ⟨⟨a0, a1⟩, ok, hl, hb⟩ := hJ
    have h0 : S3 x23 := ⟨a0, by omega⟩
    have T : tabB s26 := sTab (by omega) hb
    have next : ∀ {a b c : Int} {p q : Bool} {u v : Sl}, u.len <= 256 /\ v.len <= 256 -> V_TSmall_0 (fun x y _ u => (0 <= x /\ x <= 401) /\ okN y /\ u.len = x /\ ∀ i : Int, 0 <= i -> i < u.len -> (u.sub i 4).len <= 256 /\ (u.sub i 6).len <= 256) (fun x _ _ _ => (401 - x).toNat) x23 y24 b25 s26 a b c p u q v := fun {a b c p q u v} h => by
     unfold V_TSmall_0
     simp only [Bool.decide_eq_true]
     have e1 : (Sl.lit [[D.int a, .int b, .int c, .bool p, Sl.d u, .bool q, Sl.d v]]).len = 1 := rfl
     refine ⟨by rw [e1]; omega, by rw [rng64]; omega, ⟨⟨by omega, by omega⟩, ok, by rw [len_app, e1]; omega, fun i i0 i1 => ?_⟩, by show (401 - (x23 + 1)).toNat < (401 - x23).toNat; omega⟩
     rw [len_app, e1] at i1
     by_cases c' : i < s26.len
     ·have e : (Sl.app s26 (Sl.lit [[D.int a, .int b, .int c, .bool p, Sl.d u, .bool q, Sl.d v]])).f i.toNat = s26.f i.toNat := f_app_lt i0 c'
      unfold Sl.sub
      rw [e]
      exact hb i i0 c'
     ·have : i = s26.len := by omega
      subst this
      have e : (Sl.app s26 (Sl.lit [[D.int a, .int b, .int c, .bool p, Sl.d u, .bool q, Sl.d v]])).f s26.len.toNat = _ := app_new rfl
      unfold Sl.sub
      rw [e]
      exact h
    have P1 : V_TSmall_1 (fun x y _ u => (0 <= x /\ x <= 401) /\ okN y /\ u.len = x /\ ∀ i : Int, 0 <= i -> i < u.len -> (u.sub i 4).len <= 256 /\ (u.sub i 6).len <= 256) (fun x _ _ _ => (401 - x).toNat) x23 y24 b25 s26 := by
     unfold V_TSmall_1
     simp only [Bool.decide_eq_true]
     exact ⟨by decide, (h0.div (by decide)).rng, by decide, (h0.mod (by decide)).rng, ⟨trivial, fun _ _ _ _ _ _ _ _ _ _ _ _ h => next (sLit h.2.2.2)⟩, ⟨trivial, fun _ _ _ _ _ _ _ _ _ _ _ _ h => ⟨next (sLit h.2.2.2), next (sLit h.2.2.2)⟩⟩⟩
    have P2 : V_TSmall_2 (fun x y _ u => (0 <= x /\ x <= 401) /\ okN y /\ u.len = x /\ ∀ i : Int, 0 <= i -> i < u.len -> (u.sub i 4).len <= 256 /\ (u.sub i 6).len <= 256) (fun x _ _ _ => (401 - x).toNat) x23 y24 b25 s26 := by
     unfold V_TSmall_2
     simp only [Bool.decide_eq_true]
     exact ⟨fun _ => ⟨⟨ok, T⟩, fun b hb => ⟨fun hn => absurd hb hn, fun _ => ⟨by decide, (h0.div (by decide)).rng, ⟨ok, T⟩, fun b hb => ⟨fun hn => absurd hb hn, fun _ => ⟨by decide, (h0.div (by decide)).rng, by decide, (h0.mod (by decide)).rng, trivial, fun _ _ _ _ _ _ _ _ _ _ _ _ h => ⟨⟨⟨ok, T⟩, sLim h.2.2.2⟩, fun b hb => ⟨fun hn => absurd hb hn, fun _ => P1⟩⟩⟩⟩⟩⟩⟩, fun _ => P1⟩
    refine ⟨fun h27 => ⟨a0, ?_, ⟨okSub (by unfold okN ylen; decide) _, sNil⟩, fun b hb => ⟨fun hn => absurd hb hn, fun _ => P2⟩⟩, fun _ => P2⟩
    show x23 <= ((26 : Nat) : Int)
    omega
   ·obtain ⟨⟨a0, a1⟩, ok, hl, hb⟩ := hJ
    have T : tabB s26 := sTab (by omega) hb
    exact ⟨⟨ok, T⟩, fun b hb => ⟨fun _ => ⟨trivial, fun _ _ _ _ _ _ _ _ _ _ _ _ h => ⟨⟨⟨ok, T⟩, sLim h.2.2.2⟩, fun b hb => ⟨fun _ => ⟨⟨⟨okY, tabY⟩, sNilR⟩, fun b hb => ⟨fun _ => ⟨⟨okNil, sNil⟩, fun b hb => ⟨fun _ => ⟨trivial, fun b hb => ⟨hb, trivial⟩⟩, fun hn => absurd hb hn⟩⟩, fun hn => absurd hb hn⟩⟩, fun hn => absurd hb hn⟩⟩⟩, fun hn => absurd hb hn⟩⟩
end Go.Sx.N
