/-
 Conditions: the ledger of the reference. Conditions: none.
-/
import Derived.Test.YtccbjhfdfbaekaaGreatNumVQ
import Derived.Test.YtccbjhfdfbaekaaGreatRunM
set_option linter.unusedVariables false
set_option linter.unusedSimpArgs false
namespace Go.Sx.N.L
theorem Nu : Uc := by
 intro s _ d p t _ e q _
 have no : ¬ X7 s d p t e q -> pY s d p t e q (decide False) := fun h => by simp [pY, h]
 refine ⟨fun h => ⟨no fun hs => h hs.1, trivial⟩, fun h1 hsm _ => ⟨fun h => ⟨no fun hs => h hs.2.1.1, trivial⟩, fun h2 hsd _ => ⟨fun h => ⟨no fun hs => h hs.2.2.1, trivial⟩, fun h3 _ => ?_⟩⟩⟩
 have hsm := iO hsm
 have h1 : s = t := Classical.not_not.1 h1
 have h2 : d.len = e.len := Classical.not_not.1 h2
 have h3 : p.len = q.len := Classical.not_not.1 h3
 obtain ⟨J, hJ⟩ : ∃ J : Int -> Prop, J = fun i => 0 <= i /\ i <= d.len /\ ∀ k : Int, 0 <= k -> k < i -> d.int k 0 = e.int k 0 := ⟨_, rfl⟩
 obtain ⟨m, hm⟩ : ∃ m : Int -> Nat, m = fun i => (d.len - i).toNat := ⟨_, rfl⟩
 refine ⟨J, m, by rw [hJ]; exact ⟨Int.le_refl _, len0 d, fun k h1 h2 => absurd h1 (by omega)⟩, fun i WJ hj => ?_⟩
 rw [hJ] at hj
 obtain ⟨hi0, hi1, hk⟩ := hj
 refine ⟨fun hlt => ⟨hi0, hlt, fun _ => ⟨hi0, by omega, fun _ => ⟨fun h => ⟨no fun hs => h (hs.2.1.2 i hi0 hlt), trivial⟩, fun h => ⟨?_, ?_, ?_⟩⟩⟩⟩, fun hge hsp => ?_⟩
 ·rw [ak] at *; omega
 ·rw [hJ]; refine ⟨by omega, by omega, fun k g1 g2 => ?_⟩
  by_cases ek : k = i
  ·rw [ek]; exact Classical.not_not.1 h
  ·exact hk k g1 (by omega)
 ·rw [hm]; show (d.len - (i + 1)).toNat < (d.len - i).toNat; omega
 have hsp := iO hsp
 obtain ⟨J2, hJ2⟩ : ∃ J : Int -> Prop, J = fun i => 0 <= i /\ i <= p.len /\ ∀ k : Int, 0 <= k -> k < i -> uP p k q k := ⟨_, rfl⟩
 obtain ⟨m2, hm2⟩ : ∃ m : Int -> Nat, m = fun i => (p.len - i).toNat := ⟨_, rfl⟩
 refine ⟨J2, m2, by rw [hJ2]; exact ⟨Int.le_refl _, len0 p, fun k h1 h2 => absurd h1 (by omega)⟩, fun i' anY hj => ?_⟩
 rw [hJ2] at hj
 obtain ⟨gi0, gi1, gk⟩ := hj
 refine ⟨fun hlt => ⟨gi0, hlt, fun _ _ _ _ => ⟨gi0, by omega, fun _ _ _ _ => ⟨fun h => ⟨no fun hs => h (hs.2.2.2 i' gi0 hlt), trivial⟩, fun h => ⟨?_, ?_, ?_⟩⟩⟩⟩, fun hge' => ⟨?_, trivial⟩⟩
 ·rw [ak]; omega
 ·rw [hJ2]; refine ⟨by omega, by omega, fun k g1 g2 => ?_⟩
  by_cases ek : k = i'
  ·rw [ek]; exact Classical.not_not.1 h
  ·exact gk k g1 (by omega)
 ·rw [hm2]; show (p.len - (i' + 1)).toNat < (p.len - i').toNat; omega
 ·simp only [pY, decide_true, true_iff]
  exact ⟨h1, ⟨h2, fun k g1 g2 => hk k g1 (by omega)⟩, ⟨h3, fun k g1 g2 => gk k g1 (by omega)⟩⟩
theorem Nv : Ud := by
 intro st hst d p m hm hp
 have hd0 := len0 d
 obtain ⟨h0, h1, h2⟩ : xg st d := hp
 have rs := bF
 refine ⟨fun i => 0 <= i /\ i <= d.len /\ ∀ k : Int, 0 <= k -> k < i -> st + k ≠ m, fun i => (d.len - i).toNat, ⟨Int.le_refl _, hd0, fun k g1 g2 => by omega⟩, fun i WJ ⟨g0, g1, g2⟩ hsm => ⟨fun hlt => ⟨rs _ (by omega), fun e => ⟨?_, trivial⟩, fun e => ⟨rs _ (by omega), ⟨by omega, by omega, fun k k0 k1 => ?_⟩, ?_⟩⟩, fun hge => ⟨?_, trivial⟩⟩⟩
 ·simp only [zQ, oh, decide_true, true_iff]; omega
 ·by_cases ek : k = i
  ·rw [ek]; exact e
  ·exact g2 k k0 (by omega)
 ·show (d.len - (i + 1)).toNat < (d.len - i).toNat; omega
 ·simp only [zQ, oh, decide_false, Bool.false_eq_true, false_iff]
  intro hh
  exact g2 (m - st) (by omega) (by omega) (by omega)
theorem EW : JG := by
 intro st hst d p day qR mo hmo kind hk amt anZ hp
 rw [alu] at hk
 simp only [Dh, Lm, zQ, iI, oh, Hr, decide_eq_true_eq, decide_true, decide_false] at *
 have hx : ∀ X : Prop, X -> (True ↔ X) := fun X h => ⟨fun _ => h, fun _ => trivial⟩
 repeat' first | exact hp | apply And.intro | (intro _)
 all_goals first | trivial | grind
theorem EX : JH := by
 intro st hst d p q hp
 have hq0 := len0 q
 have rs := bF
 have hs : xg st d := hp
 refine ⟨fun i => 0 <= i /\ i <= q.len /\ ∀ k : Int, 0 <= k -> k < i -> mD st d.len q 0 k, fun i => (q.len - i).toNat, ⟨Int.le_refl _, hq0, fun k g1 g2 => by omega⟩, fun i WJ ⟨g0, g1, g2⟩ hsm => ⟨fun hlt => ⟨g0, hlt, fun r0 r1 r2 r3 => ⟨hs, fun b hb => ?_⟩⟩, fun hge => ⟨?_, trivial⟩⟩⟩
 ·have Xa := iO hsm
  have bad : ¬ mD st d.len q 0 i -> l9 st d p q (decide False) := fun hn => by
   simp only [l9, decide_false, Bool.false_eq_true, false_iff]
   exact fun h => hn (h i g0 hlt)
  have good : mD st d.len q 0 i -> Rng .i64 (i + 1) /\ (0 <= i + 1 /\ i + 1 <= q.len /\ ∀ k : Int, 0 <= k -> k < i + 1 -> mD st d.len q 0 k) /\ (q.len - (i + 1)).toNat < (q.len - i).toNat := fun h =>
   ⟨rs _ (by omega), ⟨by omega, by omega, fun k k0 k1 => by
    by_cases ek : k = i
    ·rw [ek]; exact h
    ·exact g2 k k0 (by omega)⟩, by omega⟩
  simp only [iI, decide_eq_true_eq] at hb
  have hfit : b = true ↔ AO st d.len q i := hb
  refine ⟨fun hn => ⟨bad fun h => hn (hfit.2 h.1), trivial⟩, fun hn => ?_⟩
  have hf : AO st d.len q i := hfit.1 (by simpa using hn)
  refine ⟨fun hpos => ⟨rs _ (by omega), by omega, by omega, fun r4 => ⟨g0, hlt, fun r5 => ⟨fun hgt => ⟨bad fun h => ?_, trivial⟩, fun hgt => good ⟨hf, ?_⟩⟩⟩⟩, fun hpos => good ⟨hf, ?_⟩⟩
  ·have := h.2
   unfold prev at this
   rw [if_neg (by omega)] at this
   omega
  ·unfold prev
   rw [if_neg (by omega)]; omega
  ·unfold prev
   rw [if_pos (by omega)]
   exact hf.1.1
 ·simp only [l9, decide_true, true_iff]
  exact fun k k0 k1 => g2 k k0 (by omega)
theorem EY : JI := by
 intro st hst d p _
 have rs := bF
 have hd0 := len0 d
 have hp0 := len0 p
 have bad : ¬ au st d p -> je st d p (decide False) /\ True := fun h => ⟨by simp [je, h], trivial⟩
 refine ⟨fun h => bad fun hv => ?_, fun h1 => ⟨fun h => bad fun hv => ?_, fun h2 hs1 => ⟨fun h => bad fun hv => ?_, fun h3 hs2 => ⟨rs _ (by omega), fun h => bad fun hv => ?_, fun h4 hs3 => ⟨fun h => bad fun hv => ?_, fun h5 => ?_⟩⟩⟩⟩⟩
 ·have := hv.1; omega
 ·have := hv.1; omega
 ·have := hv.1; omega
 ·have := hv.1; omega
 ·have := hv.2.2.1; omega
 refine ⟨fun i => 0 <= i /\ i <= d.len /\ ∀ k : Int, 0 <= k -> k < i -> 0 <= d.int k 0 /\ d.int k 0 <= 1099511627776, fun i => (d.len - i).toNat, ⟨Int.le_refl _, hd0, fun k g1 g2 => by omega⟩, fun i WJ ⟨g0, g1, g2⟩ hsm => ⟨fun hlt => ⟨g0, hlt, fun r0 => ⟨fun h => bad fun hv => ?_, fun h6 => ⟨g0, hlt, fun r1 => ⟨fun h => bad fun hv => ?_, fun h7 => ⟨rs _ (by omega), ⟨by omega, by omega, fun k k0 k1 => ?_⟩, ?_⟩⟩⟩⟩⟩, fun hge => ⟨⟨by omega, by omega, by omega⟩, fun b hb => ⟨?_, trivial⟩⟩⟩⟩
 ·have := hv.2.1 i g0 hlt; omega
 ·have := hv.2.1 i g0 hlt; omega
 ·by_cases ek : k = i
  ·rw [ek]; omega
  ·exact g2 k k0 (by omega)
 ·show (d.len - (i + 1)).toNat < (d.len - i).toNat; omega
 ·simp only [l9, je, decide_eq_true_eq] at *
  rw [hb]
  exact ⟨fun h => ⟨⟨by omega, by omega, by omega, by omega⟩, fun k k0 k1 => g2 k k0 (by omega), by omega, h⟩, fun h => h.2.2.2⟩
end Go.Sx.N.L
namespace Go.Sx.N
theorem Nu : Uc := L.Nu
theorem Nv : Ud := L.Nv
theorem EW : JG := L.EW
theorem EX : JH := L.EX
theorem EY : JI := L.EY
theorem ac5 : Wh := by
 intro st _ d p q ⟨hp, hq⟩
 simp only [Bool.decide_eq_true, qE]
 have p0 := len0 p
 have q0 := len0 q
 have e0 : (Sl.lit []).len = 0 := rfl
 have bad : ¬ ng st d p q -> vT st d p q 0 Sl.nil Sl.nil 2 /\ True := fun h => ⟨⟨fun _ => ⟨rfl, rfl, rfl, rfl⟩, fun g => absurd g h⟩, trivial⟩
 refine ⟨by omega, by omega, trivial, fun v hv => ⟨fun hn => bad fun h => hn (hv.2 h.1), fun hy => ?_⟩⟩
 have hv := hv.1 (Classical.not_not.1 hy)
 have hf := MG (st := st) (n := d.len) (DT p q) 0
 refine ⟨⟨hv.1.1, hv.1.2.1, hv.1.2.2.1⟩, fun w hw => ⟨fun hn => bad fun h => hn (hw.2 (hf.2 ⟨hv.2.2.2, h.2⟩)), fun hy' _ => ?_⟩⟩
 have hok : ng st d p q := ⟨hv, (hf.1 (hw.1 (Classical.not_not.1 hy'))).2⟩
 rw [dO]
 exact ⟨fun hl => ⟨⟨fun k => absurd hok k, fun _ => ⟨fun _ => ⟨rfl, rfl, rfl, rfl⟩, fun k => by omega⟩⟩, trivial⟩, fun hl => ⟨⟨fun k => absurd hok k, fun _ => ⟨fun k => by omega, fun _ => ⟨rfl, rfl, ⟨rfl, fun _ _ _ => rfl⟩, DT p q⟩⟩⟩, trivial⟩⟩
end Go.Sx.N
